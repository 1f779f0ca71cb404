/- Own work: part 45 of the proof of FnStages. -/
import Derived.Test.YtdgpapmladligaaGreatP44
import Derived.Lib.SlicesCompact
set_option linter.unusedSimpArgs false
set_option linter.unusedVariables false
namespace Go.Eng.T
set_option maxRecDepth 20000
abbrev InV (a b c:Int):Prop:=b≤a∧a≤c
def Ij (xs:List Int) (j:Nat):Bool:=(List.range j).all fun i=>decide (InV (xs.getD i 0) 1 9)&&(decide (i=0)||decide (xs.getD (i-1) 0<xs.getD i 0))
theorem MS (xs:List Int) (j:Nat):Ij xs (j+1)=(Ij xs j&&(decide (InV (xs.getD j 0) 1 9)&&(decide (j=0)||decide (xs.getD (j-1) 0<xs.getD j 0)))):=by
 unfold Ij
 rw[List.range_succ,List.all_append]
 simp
theorem RB {xs:List Int} {j:Nat} (h:j<xs.length) (hn:Ij xs (j+1)=false):Ij xs xs.length=false:=by
 have:∀n,Ij xs (j+1+n)=false:=by
  intro n
  induction n with
  | zero=>exact hn
  | succ n ih=>rw[show j+1+(n+1)=(j+1+n)+1 by omega,MS,ih];rfl
 have:=this (xs.length-(j+1))
 rwa [show j+1+(xs.length-(j+1))=xs.length by omega]at this
theorem QA {xs:List Int} {j:Nat} (h:j<xs.length):xs.getD j 0=xs[j]:=by simp[h]
def AP (xs:List Int):Bool:=Ij xs xs.length&&decide (0<xs.length)
abbrev BM (R:Rel):Prop:=∀xs:List Int,xs.length≤maxLen→R [.sl 1 1 xs.length (ints xs)] [] (B (AP xs)) []
theorem Ack (D:Dn) (hI:Sk (D CQ)):BM (Body D I8):=by
 intro xs hl
 unfold maxLen at hl
 simp -implicitDefEqProofs
 refine Af (fun k s=>∃j,j+k=xs.length∧Ij xs j=true∧s=⟨[.sl 1 1 xs.length (ints xs),.undef,.sc (.int .i64 j),.undef,.undef],[]⟩) ?_ xs.length _ ⟨0,by simp,by simp[Ij],by simp⟩
 intro k s ⟨j,hj,hr,hs⟩
 subst hs
 by_cases hjn:j<xs.length
 ·have hw:IntKind.i64.wrap ((j:Int)+1)=(j+1:Nat):=by rw[Ab (by omega) (by omega)];simp
  have hst:=MS xs j
  rw[hr,Bool.true_and,QA hjn]at hst
  simp -implicitDefEqProofs [hjn]
  refine Aa (hI _ _ _) ?_
  by_cases h1:InV xs[j] 1 9
  rotate_left
  ·have e:AP xs=false:=by unfold AP;rw[RB hjn (by rw[hst];simp[h1])];rfl
   simp -implicitDefEqProofs [h1,e]
  by_cases h0:j=0
  ·subst h0
   simp -implicitDefEqProofs [h1]
   exact⟨k-1,by omega,1,by omega,by rw[hst];simp[h1],by simpa using hw⟩
  ·have hw2:IntKind.i64.wrap ((j:Int)-1)=((j-1:Nat):Int):=by rw[Ab (by omega) (by omega)];omega
   have h2:(0:Int)<j:=by omega
   have h2':0<j:=by omega
   have h3:j-1<xs.length:=by omega
   rw[QA h3]at hst
   by_cases h4:xs[j-1]<xs[j]
   ·have h4':¬xs[j]≤xs[j-1]:=by omega
    simp -implicitDefEqProofs [h1,h2,h2',hw2,h3,hjn,h4']
    exact⟨k-1,by omega,j+1,by omega,by rw[hst];simp[h1,h0,h4],by simp[hw]⟩
   ·have e:AP xs=false:=by unfold AP;rw[RB hjn (by rw[hst];simp[h1,h0,h4])];rfl
    have h4':xs[j]≤xs[j-1]:=by omega
    simp -implicitDefEqProofs [h1,h2,h2',hw2,h3,hjn,h4',e]
 ·obtain rfl:j=xs.length:=by omega
  have e:AP xs=decide (0<xs.length):=by unfold AP;rw[hr];rfl
  by_cases h5:0<xs.length
  ·have h5':(0:Int)<xs.length:=by omega
   simp -implicitDefEqProofs [e,h5,h5']
  ·have h5':¬(0:Int)<xs.length:=by omega
   simp -implicitDefEqProofs [e,h5,h5']
theorem AaF (D:Dn) (hI:Sk (D C9)):BM (Body D II):=by
 intro xs hl
 unfold maxLen at hl
 simp -implicitDefEqProofs
 refine Af (fun k s=>∃j v2 v3,j+k=xs.length∧Ij xs j=true∧s=⟨[.sl 1 1 xs.length (ints xs),.undef,v2,v3,.sl 1 1 xs.length (ints xs),.sc (.int .i64 xs.length),.sc (.int .i64 j),.undef,.undef],[]⟩) ?_ xs.length _ ⟨0,.undef,.undef,by simp,by simp[Ij],by simp⟩
 intro k s ⟨j,v2,v3,hj,hr,hs⟩
 subst hs
 by_cases hjn:j<xs.length
 ·have hw:IntKind.i64.wrap ((j:Int)+1)=(j+1:Nat):=by rw[Ab (by omega) (by omega)];simp
  have hst:=MS xs j
  rw[hr,Bool.true_and,QA hjn]at hst
  simp -implicitDefEqProofs [hjn]
  refine Aa (hI _ _ _) ?_
  by_cases h1:InV xs[j] 1 9
  rotate_left
  ·have e:AP xs=false:=by unfold AP;rw[RB hjn (by rw[hst];simp[h1])];rfl
   simp -implicitDefEqProofs [h1,e]
  by_cases h0:j=0
  ·subst h0
   simp -implicitDefEqProofs [h1]
   exact⟨k-1,by omega,1,by omega,by rw[hst];simp[h1],by simpa using hw⟩
  ·have hw2:IntKind.i64.wrap ((j:Int)-1)=((j-1:Nat):Int):=by rw[Ab (by omega) (by omega)];omega
   have h2:(0:Int)<j:=by omega
   have h2':0<j:=by omega
   have h3:j-1<xs.length:=by omega
   rw[QA h3]at hst
   by_cases h4:xs[j-1]<xs[j]
   ·have h4':¬xs[j]≤xs[j-1]:=by omega
    simp -implicitDefEqProofs [h1,h2,h2',hw2,h3,hjn,h4']
    exact⟨k-1,by omega,j+1,by omega,by rw[hst];simp[h1,h0,h4],by simp[hw]⟩
   ·have e:AP xs=false:=by unfold AP;rw[RB hjn (by rw[hst];simp[h1,h0,h4])];rfl
    have h4':xs[j]≤xs[j-1]:=by omega
    simp -implicitDefEqProofs [h1,h2,h2',hw2,h3,hjn,h4',e]
 ·obtain rfl:j=xs.length:=by omega
  have e:AP xs=decide (0<xs.length):=by unfold AP;rw[hr];rfl
  by_cases h5:0<xs.length
  ·have h5':(0:Int)<xs.length:=by omega
   simp -implicitDefEqProofs [e,h5,h5']
  ·have h5':¬(0:Int)<xs.length:=by omega
   simp -implicitDefEqProofs [e,h5,h5']
theorem Iq {p:Int→Bool} {xs:List Int} {j:Nat} (h:j<xs.length):(xs.take (j+1)).filter p=(xs.take j).filter p++(if p xs[j]then [xs[j]]else []):=by
 have e:xs.take (j+1)=xs.take j++ [xs[j]]:=by simp
 rw[e,List.filter_append]
 by_cases hp:p xs[j]=true<;>simp[hp]
theorem KJ {p:Int→Bool} {xs:List Int} {j:Nat} (h:xs.length≤j):(xs.take j).filter p=xs.filter p:=by rw[List.take_of_length_le h]
theorem Kw {p:Int→Bool} {xs:List Int} {j:Nat}:((xs.take j).filter p).length≤j:=by
 have:=List.length_filter_le p (xs.take j)
 have h2:(xs.take j).length≤j:=by simp;omega
 omega
def common (a b:List Int):List Int:=a.filter fun v=>decide (v∈b)
def Az (a:List Int) (v:Int):List Int:=a.filter fun x=> !decide (x=v)
abbrev Iw (R:Rel):Prop:=∀a b:List Int,a.length≤4194304→b.length≤maxLen→R [.sl 1 1 a.length (ints a),.sl 1 1 b.length (ints b)] [] (.sl 0 1 (common a b).length (ints (common a b))) []
abbrev Wd (R:Rel):Prop:=∀(a:List Int) (v:Int),a.length≤4194304→R [.sl 1 1 a.length (ints a),.sl 1 1 1 (ints [v])] [] (.sl 0 1 (Az a v).length (ints (Az a v))) []
theorem Aih (D:Dn) (hH:P5 (D Gi)):Iw (Body D Mh):=by
 intro a b ha hb'
 have hres:common a b=a.filter (fun v=>decide (v∈b)):=rfl
 rw[hres]
 simp -implicitDefEqProofs
 refine Af (fun k s=>∃j o1 o2,j+k=a.length∧s=⟨[.sl 1 1 a.length (ints a),.sl 1 1 b.length (ints b),.undef,.arr 3,.sc (.int .i64 j),.undef,.undef],[.free,o1,o2,.arr 1 0 ((a.take j).filter (fun v=>decide (v∈b))).length (ints ((a.take j).filter (fun v=>decide (v∈b))))]⟩) ?_ a.length _ ⟨0,by simp⟩
 intro k s ⟨j,o1,o2,hj,hs⟩
 subst hs
 by_cases hjn:j<a.length
 ·have hw:IntKind.i64.wrap ((j:Int)+1)=(j+1:Nat):=by rw[Ab (by omega) (by omega)];simp
  have hst:=Iq (p:=fun v=>decide (v∈b)) hjn
  have hln:=Kw (p:=fun v=>decide (v∈b)) (xs:=a) (j:=j)
  have hb:(((a.take j).filter (fun v=>decide (v∈b))).length+1)*8≤1099511627776:=by omega
  simp -implicitDefEqProofs [hjn]
  refine Aa (hH b _ hb') ?_
  by_cases h1:a[j]∈b
  ·rw[if_pos (by simp[h1])]at hst
   simp -implicitDefEqProofs [h1,hjn,hb]
   exact⟨k-1,by omega,j+1,by omega,by simp[hw],by rw[hst];simp,by rw[hst]⟩
  ·rw[if_neg (by simp[h1]),List.append_nil]at hst
   simp -implicitDefEqProofs [h1,hjn,hb]
   exact⟨k-1,by omega,j+1,by omega,by simp[hw],by rw[hst],by rw[hst]⟩
 ·have hx:=KJ (p:=fun v=>decide (v∈b)) (xs:=a) (j:=j) (by omega)
  simp -implicitDefEqProofs [hjn,hx]
theorem Aik (D:Dn) (hH:P5 (D Ci)):Iw (Body D Mr):=by
 intro a b ha hb'
 have hres:common a b=a.filter (fun v=>decide (v∈b)):=rfl
 rw[hres]
 simp -implicitDefEqProofs
 refine Af (fun k s=>∃j v4 o1 o2,j+k=a.length∧s=⟨[.undef,.sl 1 1 b.length (ints b),.undef,.arr 3,v4,.sl 1 1 a.length (ints a),.sc (.int .i64 a.length),.sc (.int .i64 j),.undef,.undef],[.free,o1,o2,.arr 1 0 ((a.take j).filter (fun v=>decide (v∈b))).length (ints ((a.take j).filter (fun v=>decide (v∈b))))]⟩) ?_ a.length _ ⟨0,by simp⟩
 intro k s ⟨j,v4,o1,o2,hj,hs⟩
 subst hs
 by_cases hjn:j<a.length
 ·have hw:IntKind.i64.wrap ((j:Int)+1)=(j+1:Nat):=by rw[Ab (by omega) (by omega)];simp
  have hst:=Iq (p:=fun v=>decide (v∈b)) hjn
  have hln:=Kw (p:=fun v=>decide (v∈b)) (xs:=a) (j:=j)
  have hb:(((a.take j).filter (fun v=>decide (v∈b))).length+1)*8≤1099511627776:=by omega
  simp -implicitDefEqProofs [hjn]
  refine Aa (hH b _ hb') ?_
  by_cases h1:a[j]∈b
  ·rw[if_pos (by simp[h1])]at hst
   simp -implicitDefEqProofs [h1,hjn,hb]
   exact⟨k-1,by omega,j+1,by omega,by simp[hw],by rw[hst];simp,by rw[hst]⟩
  ·rw[if_neg (by simp[h1]),List.append_nil]at hst
   simp -implicitDefEqProofs [h1,hjn,hb]
   exact⟨k-1,by omega,j+1,by omega,by simp[hw],by rw[hst],by rw[hst]⟩
 ·have hx:=KJ (p:=fun v=>decide (v∈b)) (xs:=a) (j:=j) (by omega)
  simp -implicitDefEqProofs [hjn,hx]
theorem Amq (D:Dn) (hH:P5 (D Ci)):Wd (Body D Nw):=by
 intro a v ha
 have hres:Az a v=a.filter (fun x=> !decide (x=v)):=rfl
 rw[hres]
 simp -implicitDefEqProofs
 refine Af (fun k s=>∃j v4 o1 o2,j+k=a.length∧s=⟨[.undef,.sl 1 1 1 (ints [v]),.undef,.arr 3,v4,.sl 1 1 a.length (ints a),.sc (.int .i64 a.length),.sc (.int .i64 j),.undef,.undef],[.free,o1,o2,.arr 1 0 ((a.take j).filter (fun x=> !decide (x=v))).length (ints ((a.take j).filter (fun x=> !decide (x=v))))]⟩) ?_ a.length _ ⟨0,by simp⟩
 intro k s ⟨j,v4,o1,o2,hj,hs⟩
 subst hs
 by_cases hjn:j<a.length
 ·have hw:IntKind.i64.wrap ((j:Int)+1)=(j+1:Nat):=by rw[Ab (by omega) (by omega)];simp
  have hst:=Iq (p:=fun x=> !decide (x=v)) hjn
  have hln:=Kw (p:=fun x=> !decide (x=v)) (xs:=a) (j:=j)
  have hb:(((a.take j).filter (fun x=> !decide (x=v))).length+1)*8≤1099511627776:=by omega
  simp -implicitDefEqProofs [hjn]
  refine Aa (hH [v] _ (by unfold maxLen;simp)) ?_
  by_cases h1:a[j]=v
  ·rw[if_neg (by simp[h1]),List.append_nil]at hst
   simp -implicitDefEqProofs [h1,hjn,hb]
   exact⟨k-1,by omega,j+1,by omega,by simp[hw],by rw[hst],by rw[hst]⟩
  ·rw[if_pos (by simp[h1])]at hst
   simp -implicitDefEqProofs [h1,hjn,hb]
   exact⟨k-1,by omega,j+1,by omega,by simp[hw],by rw[hst];simp,by rw[hst]⟩
 ·have hx:=KJ (p:=fun x=> !decide (x=v)) (xs:=a) (j:=j) (by omega)
  simp -implicitDefEqProofs [hjn,hx]
end Go.Eng.T
namespace Go.Eng.T
set_option maxRecDepth 20000
set_option maxHeartbeats 1000000
def MN (l:List Int):Int:=l.foldl (fun a v=>if v>a then v else a) 0
theorem Ae5 {x:Int}:∀(l:List Int) (a:Int),(∀y,y∈l→y<x)→a<x→l.foldl (fun a v=>if v>a then v else a) a<x
 | [],a,_,h=>h
 | y::l,a,hl,h=>by
  simp only[List.foldl_cons]
  refine Ae5 l _ (fun z hz=>hl z (by simp[hz])) ?_
  split
  ·exact hl y (by simp)
  ·exact h
theorem AaC {xs:List Int}:∀(n:Nat),Ij xs n=true→∀i j,i<j→j<n→xs.getD i 0<xs.getD j 0
 | 0,_,i,j,_,h=>by omega
 | n+1,hr,i,j,hij,hj=>by
  rw[MS]at hr
  simp only[Bool.and_eq_true,Bool.or_eq_true,decide_eq_true_eq]at hr
  obtain⟨h1,_,h3⟩:=hr
  by_cases hjn:j<n
  ·exact AaC n h1 i j hij hjn
  ·obtain rfl:j=n:=by omega
   have h4:xs.getD (j-1) 0<xs.getD j 0:=by
    rcases h3 with h3 | h3
    ·omega
    ·exact h3
   by_cases he:i=j-1
   ·rw[he];exact h4
   ·have:=AaC j h1 i (j-1) (by omega) (by omega)
    omega
theorem ArM {xs:List Int} {n i:Nat} (h:Ij xs n=true) (hi:i<n):InV (xs.getD i 0) 1 9:=by
 unfold Ij at h
 have:=List.all_eq_true.1 h i (List.mem_range.2 hi)
 simp at this
 exact⟨this.1.1,this.1.2⟩
theorem Xc {xs:List Int} (h:AP xs=true):xs.Pairwise (· < ·):=by
 unfold AP at h
 simp only[Bool.and_eq_true,decide_eq_true_eq]at h
 rw[List.pairwise_iff_getElem]
 intro i j hi hj hij
 have:=AaC _ h.1 i j hij hj
 rwa [QA hi,QA hj]at this
theorem Af4 {xs:List Int} (h:AP xs=true):∀x,x∈xs→InV x 1 9:=by
 unfold AP at h
 simp only[Bool.and_eq_true,decide_eq_true_eq]at h
 intro x hx
 obtain⟨i,hi,rfl⟩:=List.getElem_of_mem hx
 have:=ArM h.1 hi
 rwa [QA hi]at this
theorem Anf {l:List Int} (hp:l.Pairwise (· < ·)) (h0:∀x,x∈l→0<x) (hn:0<l.length):MN l=l[l.length-1]:=by
 obtain⟨l',x,rfl⟩:∃l' x,l=l'++ [x]:=by
  rcases List.eq_nil_or_concat l with h | ⟨l',x,h⟩
  ·rw[h]at hn;simp at hn
  ·exact⟨l',x,by simpa using h⟩
 rw[List.pairwise_append]at hp
 have h1:MN l' <x:=Ae5 l' 0 (fun y hy=>hp.2.2 y hy x (by simp)) (h0 x (by simp))
 have h2:MN (l'++ [x])=if x>MN l' then x else MN l':=by unfold MN;rw[List.foldl_append];rfl
 rw[h2,if_pos h1]
 simp
def AB (a b:List Int):Int:=if AP a=true∧AP b=true then MN (common a b)else 0
abbrev Em (R:Rel):Prop:=∀a b:List Int,a.length≤4194304→b.length≤4194304→R [.sl 1 1 a.length (ints a),.sl 1 1 b.length (ints b)] [] (I (AB a b)) []
theorem ml {n:Nat} (h:n≤4194304):n≤maxLen:=by unfold maxLen;omega
theorem Adj (D:Dn) (hC:Iw (D Ab1)) (hA:BM (D DL)):Em (Body D JQ):=by
 intro a b ha hb
 have hcl:(common a b).length≤4194304:=Nat.le_trans (List.length_filter_le _ _) ha
 simp -implicitDefEqProofs
 refine Aa (hC a b ha (ml hb)) ?_
 simp -implicitDefEqProofs
 refine Aa (hA a (ml ha)) ?_
 by_cases h1:AP a=true
 rotate_left
 ·simp -implicitDefEqProofs [h1,AB]
 simp -implicitDefEqProofs [h1]
 refine Aa (hA b (ml hb)) ?_
 by_cases h2:AP b=true
 rotate_left
 ·simp -implicitDefEqProofs [h2,AB]
 have e:AB a b=MN (common a b):=by unfold AB;rw[if_pos ⟨h1,h2⟩]
 rw[e]
 by_cases h3:common a b=[]
 ·simp -implicitDefEqProofs [h2,h3,MN]
 have h4:0<(common a b).length:=List.length_pos_iff.2 h3
 have h5:=Anf (l:=common a b) ((Xc h1).filter _) (fun x hx=>by have:=Af4 h1 x (List.mem_filter.1 hx).1;omega) h4
 rw[h5]
 generalize common a b=l at h3 h4 hcl
 have hw:IntKind.i64.wrap ((l.length:Int)-1)=((l.length-1:Nat):Int):=by rw[Ab (by omega) (by omega)];omega
 have h6:l.length-1<l.length:=by omega
 simp -implicitDefEqProofs [h2,h3,hw,h6,h4]
theorem AdM (D:Dn) (hC:Iw (D Aax)) (hA:BM (D I9)):Em (Body D J2):=by
 intro a b ha hb
 have hcl:(common a b).length≤4194304:=Nat.le_trans (List.length_filter_le _ _) ha
 simp -implicitDefEqProofs
 refine Aa (hA a (ml ha)) ?_
 by_cases h1:AP a=true
 rotate_left
 ·simp -implicitDefEqProofs [h1,AB]
 simp -implicitDefEqProofs [h1]
 refine Aa (hA b (ml hb)) ?_
 by_cases h2:AP b=true
 rotate_left
 ·simp -implicitDefEqProofs [h2,AB]
 have e:AB a b=MN (common a b):=by unfold AB;rw[if_pos ⟨h1,h2⟩]
 rw[e]
 simp -implicitDefEqProofs [h2]
 refine Aa (hC a b ha (ml hb)) ?_
 generalize common a b=l at hcl
 simp -implicitDefEqProofs
 refine Af (fun k s=>∃j,j+k=l.length∧s=⟨[.undef,.undef,.undef,.sc (.int .i64 (MN (l.take j))),.undef,.undef,.arr 0,.sc (.int .i64 l.length),.sc (.int .i64 j),.undef],[.arr 1 0 l.length (ints l)]⟩) ?_ l.length _ ⟨0,by simp,by simp[MN]⟩
 intro k s ⟨j,hj,hs⟩
 subst hs
 by_cases hjn:j<l.length
 ·have hw:IntKind.i64.wrap ((j:Int)+1)=(j+1:Nat):=by rw[Ab (by omega) (by omega)];simp
  have hst:MN (l.take (j+1))=if l[j]>MN (l.take j)then l[j]else MN (l.take j):=by
   have e:l.take (j+1)=l.take j++ [l[j]]:=by simp
   unfold MN
   rw[e,List.foldl_append];rfl
  simp -implicitDefEqProofs [hjn]
  exact⟨k-1,by omega,j+1,by omega,by rw[hst],by simp[hw]⟩
 ·have hx:l.take j=l:=List.take_of_length_le (by omega)
  simp -implicitDefEqProofs [hjn,hx]
end Go.Eng.T
namespace Go.Eng.T
set_option maxRecDepth 20000
set_option maxHeartbeats 1000000
def Wq {α:Type} (f:α→α) (xs:List α) (j:Nat):List α:=(xs.take j).map f++xs.drop j
section
variable {α:Type} {f:α→α} {xs:List α} {j:Nat}
theorem AnO:Wq f xs 0=xs:=by simp[Wq]
theorem Aru (h:xs.length≤j):Wq f xs j=xs.map f:=by simp[Wq,List.take_of_length_le h,List.drop_eq_nil_of_le h]
@[simp] theorem AqL (h:j≤xs.length):(Wq f xs j).length=xs.length:=by simp[Wq];omega
theorem Ahh (h:j<xs.length):(Wq f xs j)[j]'(by rw[AqL (by omega)];exact h)=xs[j]:=by
 unfold Wq
 have hl:((xs.take j).map f).length=j:=by simp;omega
 have hm:min j xs.length=j:=by omega
 rw[List.getElem_append_right (by omega)]
 simp[hm]
theorem AgU (h:j<xs.length):(Wq f xs j).set j (f xs[j])=Wq f xs (j+1):=by
 unfold Wq
 have hl:((xs.take j).map f).length=j:=by simp;omega
 have ht:xs.take (j+1)=xs.take j++ [xs[j]]:=by simp
 rw[List.set_append_right _ _ (by omega),hl,Nat.sub_self,ht,List.map_append,List.drop_eq_getElem_cons h,List.set_cons_zero,List.append_assoc]
 rfl
theorem Aeg (h:j<xs.length) (hf:f xs[j]=xs[j]):Wq f xs (j+1)=Wq f xs j:=by
 rw[←AgU h,hf]
 have:=Ahh (f:=f) h
 conv=>lhs;rw[←this]
 simp
end
def Eb (w:World) (e:Ak):Ak:=if 0<AB w.server (Az e.versions w.rollout.version)then⟨Az e.versions w.rollout.version,e.tags,e.path,e.cls⟩else e
def leave (w:World):World:={w with ends:=w.ends.map (Eb w),stage:=[]}
abbrev Kq (R:Rel):Prop:=∀w:World,Ap w≤4194304→R [arg (CO w)] [] (.agg (CO (leave w))) []
theorem ArW (a:List Int) (v:Int):(Az a v).length≤a.length:=List.length_filter_le _ _
theorem AhY {w:World} (h:Ap w≤4194304) {j:Nat} (hj:j<w.ends.length):w.ends[j].versions.length≤4194304:=by
 have:=size_at (f:=Ad) hj
 have e:Ad w.ends[j]=w.ends[j].versions.length+w.ends[j].tags.length+Cg FI w.ends[j].path:=rfl
 unfold Ap at h
 omega
theorem AkS {w:World} (h:Ap w≤4194304):w.server.length≤4194304:=by unfold Ap at h;omega
theorem Y7 (D:Dn) (hC:Jm (D PS)) (hW:Wd (D AcX)) (hB:Em (D JB)):Kq (Body D Hy):=by
 intro w h
 have hl:=Es h
 simp -implicitDefEqProofs
 refine Aa (hC w h) ?_
 simp -implicitDefEqProofs
 refine Af (fun k s=>∃j v5 v6 v7 o9 o10 o11,j+k=w.ends.length∧s=⟨[.undef,.ptr 0 0,.ptr 1 0,.ptr 8 0,.sc (.int .i64 w.rollout.version),v5,v6,v7,.arr 4,.sc (.int .i64 w.ends.length),.sc (.int .i64 j),.undef,.undef],[.var ((CO w).map (AA 1)),.var [.nil 1,.nil 1,.sc (.int .i64 0),.nil 4,.sc (.int .i64 0),.nil 1,.sc (.int .i64 0),.sc (.bool false),.sc (.int .i64 0),.sc (.int .i64 0),.nil 5,.nil 8,.sc (.int .i64 0),.sc (.int .i64 0),.sc (.int .i64 0)],.arr 1 0 w.server.length (ints w.server),.arr 1 0 w.tags.length (ints w.tags),.arr 4 0 w.ends.length ((Wq (Eb w) w.ends j).flatMap Ac),.arr 1 0 w.rollout.stages.length (ints w.rollout.stages),.arr 5 0 w.stage.length (w.stage.flatMap Am),.arr 8 0 w.log.length (w.log.flatMap Aj),.var [.arr 2,.arr 3,.sc (.int .i64 w.key),.arr 4,.sc (.int .i64 w.rollout.version),.arr 5,.sc (.int .i64 w.rollout.pos),.sc (.bool w.rollout.off),.sc (.int .i64 w.least),.sc (.int .i64 w.percent),.arr 6,.arr 7,.sc (.int .i64 w.now),.sc (.int .i64 w.hurt),.sc (.int .i64 w.reached)],o9,o10,o11]⟩) ?_ w.ends.length _ ⟨0,by simp[AnO]⟩
 intro k s ⟨j,v5,v6,v7,o9,o10,o11,hj,hs⟩
 subst hs
 by_cases hjn:j<w.ends.length
 ·have hw:IntKind.i64.wrap ((j:Int)+1)=(j+1:Nat):=by rw[Ab (by omega) (by omega)];simp
  have hjl:j≤w.ends.length:=by omega
  have hset:=AgU (f:=Eb w) hjn
  have hg:=Ahh (f:=Eb w) hjn
  have hvl:=AhY h hjn
  have hwl:=ArW w.ends[j].versions w.rollout.version
  have hf:j*4<w.ends.length*4:=by omega
  simp -implicitDefEqProofs [hjn,hjl,hg]
  refine Aa (hW w.ends[j].versions _ hvl) ?_
  by_cases h0:(Az w.ends[j].versions w.rollout.version).length<w.ends[j].versions.length
  ·have h0':((Az w.ends[j].versions w.rollout.version).length:Int)<w.ends[j].versions.length:=by omega
   simp -implicitDefEqProofs [h0,h0']
   refine Aa (hB w.server _ (AkS h) (by omega)) ?_
   by_cases h1:0<AB w.server (Az w.ends[j].versions w.rollout.version)
   ·have e:Eb w w.ends[j]=⟨Az w.ends[j].versions w.rollout.version,w.ends[j].tags,w.ends[j].path,w.ends[j].cls⟩:=by unfold Eb;rw[if_pos h1]
    rw[e]at hset
    simp -implicitDefEqProofs [h1,hjn,hjl,hg,hf]
    exact⟨k-1,by omega,j+1,by omega,by simp[hw],by rw[←hset]⟩
   ·have e:Eb w w.ends[j]=w.ends[j]:=by unfold Eb;rw[if_neg h1]
    have hsame:=Aeg hjn e
    simp -implicitDefEqProofs [h1]
    exact⟨k-1,by omega,j+1,by omega,by simp[hw],by rw[hsame]⟩
  ·have h0':¬((Az w.ends[j].versions w.rollout.version).length:Int)<w.ends[j].versions.length:=by omega
   have e:Eb w w.ends[j]=w.ends[j]:=by
    have hall:Az w.ends[j].versions w.rollout.version=w.ends[j].versions:=List.filter_eq_self.2 (by
     have:=List.length_filter_eq_length_iff (p:=fun x=> !decide (x=w.rollout.version)) (l:=w.ends[j].versions)
     exact this.1 (by unfold Az at h0 hwl;omega))
    unfold Eb
    rw[hall]
    split<;>rfl
   have hsame:=Aeg hjn e
   simp -implicitDefEqProofs [h0,h0']
   exact⟨k-1,by omega,j+1,by omega,by simp[hw],by rw[hsame]⟩
 ·have hx:=Aru (f:=Eb w) (xs:=w.ends) (j:=j) (by omega)
  simp -implicitDefEqProofs [hjn,hx,leave]
end Go.Eng.T
namespace Go.Eng.T
set_option maxRecDepth 20000
set_option maxHeartbeats 1000000
def Jh (xs:List (List Int)):List V:=xs.map fun l=> .sl 0 1 l.length (ints l)
@[simp high] theorem AwK (xs:List (List Int)):(Jh xs).length=xs.length:=by simp[Jh]
@[simp] theorem AwJ:Jh []=[]:=rfl
@[simp] theorem Axk (xs:List (List Int)):(Jh xs).map (AA 0)=Jh xs:=by simp[Jh,Function.comp_def,AA]
@[simp high] theorem Axb {xs:List (List Int)} {j:Nat} (h:j<xs.length):(Jh xs)[j]? =some (V.sl 0 1 xs[j].length (ints xs[j])):=by simp[Jh,h]
theorem Ake (xs:List (List Int)) (l:List Int) {n:Nat} (h:n=l.length):Jh xs++ [.sl 0 1 n (ints l)]=Jh (xs++ [l]):=by subst h;simp[Jh]
def K4 (xs:List (List Int)):Nat:=Cg List.length xs
theorem ZO {xs:List (List Int)} {j:Nat} (h:j<xs.length):xs[j].length≤K4 xs:=size_at (f:=List.length) h
theorem UR {xs:List (List Int)}:xs.length≤K4 xs:=G7
def Hl (w:World):List (List Int):=w.ends.map (·.versions)
abbrev KD (R:Rel):Prop:=∀w:World,Ap w≤4194304→R [arg (CO w)] [] (.sl 0 1 (Hl w).length (Jh (Hl w))) []
theorem Ab8 {xs:List Ak} {j:Nat} (h:j<xs.length):Jh ((xs.map (·.versions)).take j)++ [.sl 0 1 xs[j].versions.length (ints xs[j].versions)]=Jh ((xs.map (·.versions)).take (j+1)):=by
 have h':j<(xs.map (·.versions)).length:=by simpa using h
 have e:(xs.map (·.versions)).take (j+1)=(xs.map (·.versions)).take j++ [xs[j].versions]:=by
  have:=List.take_append_getElem h'
  rw[←this];simp
 rw[e,Ake _ _ rfl]
theorem Ajx (D:Dn):KD (Body D NK):=by
 intro w h
 have hl:=Es h
 have hres:Hl w=w.ends.map (·.versions):=rfl
 rw[hres]
 simp -implicitDefEqProofs
 refine Af (fun k s=>∃j o2 o3 o4 o5,j+k=w.ends.length∧s=⟨[.undef,.ptr 0 0,.undef,.arr 6,.sc (.int .i64 j),.undef],[.var ((CO w).map (AA 1)),.free,o2,o3,o4,o5,.arr 1 0 j (Jh ((w.ends.take j).map (·.versions)))]⟩) ?_ w.ends.length _ ⟨0,.free,.free,.free,.free,by simp,by simp⟩
 intro k s ⟨j,o2,o3,o4,o5,hj,hs⟩
 subst hs
 by_cases hjn:j<w.ends.length
 ·have hw:IntKind.i64.wrap ((j:Int)+1)=(j+1:Nat):=by rw[Ab (by omega) (by omega)];simp
  have hst:=Ab8 hjn
  have hvl:=Abt h hjn
  unfold maxLen at hvl
  have h2:w.ends[j].versions.length≤4194304:=by
   have:=size_at (f:=Ad) hjn
   have e:Ad w.ends[j]=w.ends[j].versions.length+w.ends[j].tags.length+Cg FI w.ends[j].path:=rfl
   unfold Ap at h
   omega
  have hb:w.ends[j].versions.length*8≤1099511627776:=by omega
  have hb2:(j+1)*24≤1099511627776:=by omega
  have hjl:min j w.ends.length=j:=by omega
  simp -implicitDefEqProofs [hjn,hb,hb2,hjl]
  exact⟨k-1,by omega,j+1,by omega,by simp[hw],rfl,hst⟩
 ·obtain rfl:j=w.ends.length:=by omega
  simp -implicitDefEqProofs
theorem Aks (D:Dn):KD (Body D NG):=by
 intro w h
 have hl:=Es h
 have hres:Hl w=w.ends.map (·.versions):=rfl
 rw[hres]
 simp -implicitDefEqProofs
 refine Af (fun k s=>∃j o2 o3 o4 o5 o6,j+k=w.ends.length∧s=⟨[.undef,.undef,.undef,.arr 7,.undef,.sl 1 4 w.ends.length (w.ends.flatMap Ac),.sc (.int .i64 w.ends.length),.sc (.int .i64 j),.undef],[.var ((CO w).map (AA 1)),.free,o2,o3,o4,o5,o6,.arr 1 0 j (Jh ((w.ends.take j).map (·.versions)))]⟩) ?_ w.ends.length _ ⟨0,.free,.free,.free,.free,.free,by simp,by simp⟩
 intro k s ⟨j,o2,o3,o4,o5,o6,hj,hs⟩
 subst hs
 by_cases hjn:j<w.ends.length
 ·have hw:IntKind.i64.wrap ((j:Int)+1)=(j+1:Nat):=by rw[Ab (by omega) (by omega)];simp
  have hst:=Ab8 hjn
  have h2:w.ends[j].versions.length≤4194304:=by
   have:=size_at (f:=Ad) hjn
   have e:Ad w.ends[j]=w.ends[j].versions.length+w.ends[j].tags.length+Cg FI w.ends[j].path:=rfl
   unfold Ap at h
   omega
  have hb:w.ends[j].versions.length*8≤1099511627776:=by omega
  have hb2:(j+1)*24≤1099511627776:=by omega
  have hjl:min j w.ends.length=j:=by omega
  simp -implicitDefEqProofs [hjn,hb,hb2,hjl]
  exact⟨k-1,by omega,j+1,by omega,by simp[hw],rfl,hst⟩
 ·obtain rfl:j=w.ends.length:=by omega
  simp -implicitDefEqProofs
abbrev PO (ls:List (List Int)):V:= .sl 1 1 ls.length (Jh ls)
def Ax5 (s:List Int) (v:Int) (l:List Int):Bool:=decide (0<AB s l)&&decide (AB (Az s v) l=0)
def Axn (s:List Int) (ls:List (List Int)) (v:Int):List Int:=Dw (Ax5 s v) ls 0
theorem Avm (xs:List Ak):K4 (xs.map (·.versions))≤Cg Ad xs:=by
 induction xs with
 | nil=>simp[K4,Cg]
 | cons x r ih=>
  simp only[K4,Cg,List.map_cons,List.sum_cons,List.length_cons,Ad,List.length_map]at *
  omega
theorem AgW {w:World} (h:Ap w≤4194304):K4 (Hl w)≤4194304:=by
 have:=Avm w.ends
 unfold Ap at h
 unfold Hl
 omega
end Go.Eng.T
namespace Go.Eng.T
structure Ext where
 tag:Int
 body:List Int
 deriving DecidableEq
structure Hello where
 versions:List Int
 exts:List Ext
 deriving DecidableEq
structure Nt where
 version:Int
 exts:List Ext
 deriving DecidableEq
def CW (x:Ext):List V:=[.sc (.int .i64 x.tag),.sl 0 1 x.body.length (ints x.body)]
def Cz (h:Hello):List V:=[.sl 0 1 h.versions.length (ints h.versions),.sl 0 2 h.exts.length (h.exts.flatMap CW)]
def RV (a:Nt):List V:=[.sc (.int .i64 a.version),.sl 0 2 a.exts.length (a.exts.flatMap CW)]
theorem QZ (x:Ext):(CW x).length=2:=rfl
@[simp] theorem AxA (xs:List Ext):(xs.flatMap CW).map (AA 0)=xs.flatMap CW:=RD (fun _=>rfl) xs
@[simp high] theorem AxM {xs:List Ext} {j:Nat} (h:j<xs.length):Ev (xs.flatMap CW) (j*2) 2=some (CW xs[j]):=JD QZ h
@[simp high] theorem Rz (xs:List Ext):(xs.flatMap CW).length=xs.length*2:=IW QZ xs
@[simp high] theorem AxZ {xs:List Ext} {j:Nat} (h:j<xs.length):(xs.flatMap CW)[j*2]? =some (.sc (.int .i64 xs[j].tag)):=by
 have:=Aw (o:=0) QZ h (by omega)
 simpa[CW]using this
@[simp high] theorem AxH {xs:List Ext} {j:Nat} (h:j<xs.length):(xs.flatMap CW)[j*2+1]? =some (.sl 0 1 xs[j].body.length (ints xs[j].body)):=by
 have:=Aw (o:=1) QZ h (by omega)
 simpa[CW]using this
theorem AmD {α:Type} {f:α→List V} {e:Nat} (hf:∀x,(f x).length=e) (xs:List α) (i:Nat):(xs.flatMap f).take (i*e)=(xs.take i).flatMap f:=by
 induction xs generalizing i with
 | nil=>simp
 | cons x xs ih=>
  cases i with
  | zero=>simp
  | succ i=>
   simp only[List.flatMap_cons,List.take_succ_cons]
   rw[←ih i,show(i+1)*e=(f x).length+i*e by rw[hf,Nat.add_mul];omega,List.take_length_add_append]
theorem Am5 {α:Type} {f:α→List V} {e:Nat} (hf:∀x,(f x).length=e) (xs:List α) (o n:Nat):part (xs.flatMap f) e o n=((xs.drop o).take n).flatMap f:=by
 unfold part
 rw[RQ hf,AmD hf]
@[simp high] theorem AwM (xs:List Ext) (o n:Nat):part (xs.flatMap CW) 2 o n=((xs.drop o).take n).flatMap CW:=Am5 QZ xs o n
attribute [simp] CW Cz RV
def OI (l:List Ext):Prop:=l.length≤4194304∧∀x,x∈l→x.body.length≤4194304
theorem O4 {l:List Ext} (h:OI l) {j:Nat} (hj:j<l.length):l[j].body.length≤4194304:=h.2 _ (List.getElem_mem hj)
theorem AfZ:OI []:=⟨by simp,by simp⟩
theorem Ajo {l:List Ext} (h:OI l) (p:Ext→Bool):OI (l.filter p):=
 ⟨Nat.le_trans (List.length_filter_le p l) h.1,fun x hx=>h.2 x (List.mem_filter.1 hx).1⟩
def M6 (q:Nat→Bool) (j:Nat):Bool:=(List.range j).all q
@[simp] theorem Awa (q:Nat→Bool):M6 q 0=true:=rfl
theorem JL (q:Nat→Bool) (j:Nat):M6 q (j+1)=(M6 q j&&q j):=by
 unfold M6
 rw[List.range_succ,List.all_append]
 simp
theorem AiY {q:Nat→Bool} {j n:Nat} (h:j<n) (hn:q j=false):M6 q n=false:=by
 have:∀m,M6 q (j+1+m)=false:=by
  intro m
  induction m with
  | zero=>rw[Nat.add_zero,JL,hn];simp
  | succ m ih=>rw[show j+1+(m+1)=(j+1+m)+1 by omega,JL,ih];rfl
 have:=this (n-(j+1))
 rwa [show j+1+(n-(j+1))=n by omega]at this
theorem AeZ {q:Nat→Bool} {n:Nat}:M6 q n=true↔∀i,i<n→q i=true:=by
 unfold M6
 rw[List.all_eq_true]
 simp
theorem Abq {α:Type} {p:α→Bool} {xs:List α} {j:Nat} (h:j<xs.length):(xs.take (j+1)).filter p=(xs.take j).filter p++(if p xs[j]then [xs[j]]else []):=by
 have e:xs.take (j+1)=xs.take j++ [xs[j]]:=by simp
 rw[e,List.filter_append]
 by_cases hp:p xs[j]=true<;>simp[hp]
theorem Aen {α:Type} {p:α→Bool} {xs:List α} {j:Nat} (h:xs.length≤j):(xs.take j).filter p=xs.filter p:=by rw[List.take_of_length_le h]
theorem Aeb {α:Type} {p:α→Bool} {xs:List α} {j:Nat}:((xs.take j).filter p).length≤j:=by
 have:=List.length_filter_le p (xs.take j)
 have h2:(xs.take j).length≤j:=by simp;omega
 omega
end Go.Eng.T
namespace Go.Eng.T
open Go.Eng.X
def AY:Nat→Ca
 |0=>R 0 [x 0 (s 0),a 1 zW] [(1,0),(2,1)] [0]
 |1=>T 1 [D (P 15 (s 1)) [0] [],D (C 38 [r (l 0)] [2,3,4,5,6,7]) [2,3,4,5,6,7] [2,3,4,5,6,7],D (F (s 1) 4) [] [],D (P 4 (l 2)) [0] [],D (a 8 zW) [8] [8],D (a 9 zR) [9] [9],D (W 15 (l 4) (l 1)) [8,11] [8],D (W 4 (l 5) (l 3)) [9,11] [9]] [(3,4),(4,5)] []
 |2=>R 2 [P 4 (s 4),C 176 [r (l 0)] [],n (l 1),m (l 2),G 3 (F (s 4) 3),G 3 (L (l 4)),k (l 3) t (l 5)] [(6,6)] []
 |3=>R 3 [P 15 (s 3),W 15 (s 2) (l 0)] [] [1,3,4]
 |4=>R 4 [F (s 3) 3,L (l 0),e (l 1),m (i 0)] [(7,2),(8,3)] []
 |5=>R 5 [y .lss (s 8) (s 7)] [(9,0)] []
 |6=>R 6 [m (s 8),m (l 0)] [(5,1)] []
 |7=>R 7 [P 4 (s 4),m (s 5),F (s 3) 3,L (l 2),e (l 3),C 228 [r (l 0),r (l 1),r (l 4)] []] [(10,5)] []
 |8=>Y 8 [D (F (s 3) 3) [] [],D (L (l 0)) [8] [],D (m (s 5)) [] [],D (F (s 3) 3) [] [],D (L (l 3)) [8] [],D (m (s 5)) [] [],D (A 4 (l 4) (l 5)) [4] [],D (F (l 6) 0) [] [],D (.take 11 (l 7)) [4,11] [4,11],D (F (s 4) 0) [] [],D (L (l 9)) [9] [],D (C 230 [v (l 8),r (l 10)] [10]) [10,11] [10,11],D (A 4 (l 1) (l 2)) [4] [],D (F (l 12) 0) [] [],D (W 1 (l 13) (l 11)) [4,10,11] [4,10]] [] [5] [10,11] []
 |9=>R 9 [y .add (s 8) (i 1),m (l 0)] [(8,1)] []
 |10=>T 10 [D (F (s 1) 14) [] [],D (L (l 0)) [0] [],D (F (s 4) 2) [] [],D (L (l 2)) [9] [],D (y .add (l 3) (i 1)) [] [],D (.minmax true (l 1) [l 4]) [] [],D (F (s 3) 10) [] [],D (W 1 (l 6) (z 5)) [8,11] [8],D (F (s 3) 14) [] [],D (W 1 (l 8) (l 5)) [8,11] [8]] [] [1,4,7,8]
 |_=>R 11 [P 15 (s 3),W 15 (s 2) (l 0)] [] [3]
def IL:Ch:=⟨11,12,[0],0,false,[11],j (d (AY 0)) (j (d (AY 1)) (j (j (d (AY 2)) (h 6 (j (d (AY 3)) (.ret)) (.skip))) (j (j (d (AY 4)) (.block 0 (.loop (j (d (AY 5)) (j (h 9 (.skip) (.exit 0)) (j (.block 1 (j (d (AY 6)) (j (d (AY 7)) (h 10 (d (AY 8)) (.skip))))) (d (AY 9)))))))) (j (d (AY 10)) (j (d (AY 11)) (.ret)))))),[.cell 2 (some 15)]⟩
def Sl:List Tmp:=[0,1,2,3,4,5,16,20,21,22,29]
def BS:Nat→Ca
 |0=>R 0 [m (z 1)] [] [2]
 |1=>R 1 [m (i 0)] [(3,0)] []
 |2=>R 2 [m (s 3),m (s 0),e (l 1),y .lss (l 0) (l 2),m (l 3),J 4 (m (s 0)),J 4 (m (s 3)),J 4 (A 1 (l 5) (l 6)),J 4 (L (l 7)),J 4 (m (s 1)),J 4 (y .lss (l 8) (l 9)),k (l 4) (l 10) f] [(4,11)] []
 |3=>R 3 [m (s 3),y .add (l 0) (i 1),m (l 1)] [(3,2)] []
 |4=>R 4 [m (s 3),m (s 0),e (l 1),y .lss (l 0) (l 2),m (l 3),J 4 (m (s 0)),J 4 (m (s 3)),J 4 (A 1 (l 5) (l 6)),J 4 (L (l 7)),J 4 (m (s 1)),J 4 (y .eql (l 8) (l 9)),k (l 4) (l 10) f] [(5,11)] []
 |5=>R 5 [m (s 0),m (l 0)] [(2,1)] [0,1,3]
 |_=>R 6 [m (s 0),m (s 3),m (s 1),M 1 1 1 [l 2],C 264 [v (l 0),r (l 1),v (l 3)] [2],m (l 4)] [(2,5)] [0,1,3]
def Ii:Ch:=⟨6,3,[0,1],1,false,[],j (d (BS 0)) (j (d (BS 1)) (j (.block 0 (.loop (j (j (d (BS 2)) (h 4 (.skip) (.exit 0))) (.block 1 (d (BS 3)))))) (j (j (d (BS 4)) (h 5 (j (d (BS 5)) (.ret)) (.skip))) (j (d (BS 6)) (.ret))))),[.slot 2]⟩
def Qm:List Tmp:=[0,1,4,5,17,31]
attribute [simp] AY IL BS Ii
end Go.Eng.T
namespace Go.Eng.T
set_option maxRecDepth 20000
end Go.Eng.T
namespace Go.Eng.T
set_option maxRecDepth 20000
def Ic (t:Int) (x:Ext):Bool:=decide (x.tag=t)
def L6 (l:List Ext) (t:Int):Int:=FM (Ic t) l 0
abbrev Ua (R:Rel):Prop:=∀(l:List Ext) (t:Int),l.length≤maxLen→R [.sl 1 2 l.length (l.flatMap CW),I t] [] (I (L6 l t)) []
theorem ApI (D:Dn):Ua (Body D QJ):=by
 intro l t hl
 unfold maxLen at hl
 have hres:L6 l t=FM (Ic t) l 0:=rfl
 rw[hres]
 simp -implicitDefEqProofs
 refine Af (fun k s=>∃j,j+k=l.length∧FM (Ic t) l 0=FM (Ic t) (l.drop j) j∧s=⟨[.sl 1 2 l.length (l.flatMap CW),I t,.undef,I j,.undef,.undef],[]⟩) ?_ (l.length) _ ⟨0,by simp,by simp,by simp⟩
 intro k s ⟨j,hj,hi,hs⟩
 subst hs
 by_cases hjn:j<l.length
 ·have hw:IntKind.i64.wrap ((j:Int)+1)=(j+1:Nat):=by rw[Ab (by omega) (by omega)];simp
  rw[N7 hjn]at hi
  by_cases he:l[j].tag=t
  ·rw[if_pos (by simp[Ic,he])]at hi
   simp -implicitDefEqProofs [hjn,he,hi]
  ·rw[if_neg (by simp[Ic,he])]at hi
   simp -implicitDefEqProofs [hjn,he]
   exact⟨k-1,by omega,j+1,by omega,by simpa using hi,by simp[hw]⟩
 ·rw[QO (by omega)]at hi
  simp -implicitDefEqProofs [hjn,hi]
def Acm (x:Ext):Bool:=decide (NA x.tag 0 255)&&(decide (x.body.length≤4)&&allIn x.body 0 255)
def UJ (l:List Ext) (i:Nat):Bool:=match l[i]? with
 | some x=>Acm x&& !(l.take i).any (Ic x.tag)
 | none=>true
theorem AeU {l:List Ext} {i:Nat} (h:i<l.length):UJ l i=(Acm l[i]&& !(l.take i).any (Ic l[i].tag)):=by
 unfold UJ
 rw[List.getElem?_eq_getElem h]
def Ez (l:List Ext):Bool:=M6 (UJ l) l.length&&decide (l.length≤6)
theorem Aj3 {α:Type} {p:α→Bool}:∀ {xs:List α} {i:Int},FM p xs i= -1∨(i≤FM p xs i∧FM p xs i<i+xs.length)
 | [],i=> .inl rfl
 | x::r,i=>by
  by_cases hp:p x=true
  ·right;simp[FM,hp];omega
  ·rcases Aj3 (p:=p) (xs:=r) (i:=i+1)with h | h
   ·left;simp[FM,hp,h]
   ·right;simp[FM,hp]at *;omega
theorem Al5 {α:Type} {p:α→Bool}:∀ {xs:List α} {i:Int} {j:Nat},0≤i→(h:j<xs.length)→p xs[j]=true→(FM p xs i<i+j↔(xs.take j).any p=true)
 | x::r,i,0,hi,h,hp=>by
  have:p x=true:=hp
  simp[FM,this]
 | x::r,i,j+1,hi,h,hp=>by
  by_cases hx:p x=true
  ·simp[FM,hx];omega
  ·have:=Al5 (p:=p) (xs:=r) (i:=i+1) (j:=j) (by omega) (by simpa using h) (by simpa using hp)
   simp only[FM,hx,List.take_succ_cons,List.any_cons,Bool.false_or]
   rw[←this]
   simp
   omega
theorem AhE {l:List Ext} {j:Nat} (h:j<l.length):(L6 l l[j].tag<(j:Int))=((l.take j).any (Ic l[j].tag)=true):=by
 have:=Al5 (p:=Ic l[j].tag) (i:=0) (by omega) h (by simp[Ic])
 rw[Int.zero_add]at this
 exact propext this
theorem Ph {l:List Ext} {j:Nat} (h:j<l.length) (hn:UJ l j=false):Ez l=false:=by
 unfold Ez
 rw[AiY h hn];rfl
abbrev KO (R:Rel):Prop:=∀l:List Ext,OI l→R [.sl 1 2 l.length (l.flatMap CW)] [] (B (Ez l)) []
theorem AkL (D:Dn) (hI:Sk (D CQ)) (hB:Ro (D O3)) (hX:Ua (D M4)):KO (Body D NR):=by
 intro l hl
 have hll:=hl.1
 simp -implicitDefEqProofs
 refine Af (fun k s=>∃j,j+k=l.length∧M6 (UJ l) j=true∧s=⟨[.sl 1 2 l.length (l.flatMap CW),.undef,I j,.undef,.undef],[]⟩) ?_ (l.length) _ ⟨0,by simp,by simp,by simp⟩
 intro k s ⟨j,hj,hr,hs⟩
 subst hs
 by_cases hjn:j<l.length
 ·have hw:IntKind.i64.wrap ((j:Int)+1)=(j+1:Nat):=by rw[Ab (by omega) (by omega)];simp
  have hst:=JL (UJ l) j
  have hq:=AeU hjn
  have hb:=O4 hl hjn
  rw[hr,Bool.true_and]at hst
  simp -implicitDefEqProofs [hjn]
  refine Aa (hI _ _ _) ?_
  by_cases h1:NA l[j].tag 0 255
  rotate_left
  ·have e:=Ph hjn (by rw[hq];simp[Acm,h1])
   simp -implicitDefEqProofs [h1,e]
  by_cases h2:l[j].body.length≤4
  rotate_left
  ·have e:=Ph hjn (by rw[hq];simp[Acm,h2])
   have h2':(4:Int)<l[j].body.length:=by omega
   simp -implicitDefEqProofs [hjn,h1,h2',e]
  have h2':¬(4:Int)<l[j].body.length:=by omega
  simp -implicitDefEqProofs [hjn,h1,h2']
  refine Aa (hB _ (by unfold maxLen;omega)) ?_
  by_cases h3:allIn l[j].body 0 255=true
  rotate_left
  ·have e:=Ph hjn (by rw[hq];simp[Acm,h3])
   simp -implicitDefEqProofs [hjn,h3,e]
  simp -implicitDefEqProofs [hjn,h3]
  refine Aa (hX l _ (by unfold maxLen;omega)) ?_
  by_cases h4:(l.take j).any (Ic l[j].tag)=true
  ·have e:=Ph hjn (by rw[hq];simp only[h4];simp)
   have h4':L6 l l[j].tag<(j:Int):=by rw[AhE hjn];exact h4
   simp -implicitDefEqProofs [hjn,h4',e]
  ·have h4':¬L6 l l[j].tag<(j:Int):=by rw[AhE hjn];exact h4
   have h4f:(l.take j).any (Ic l[j].tag)=false:=by simpa using h4
   simp -implicitDefEqProofs [hjn,h4']
   exact⟨k-1,by omega,j+1,by omega,by rw[hst,hq,h4f];simp[Acm,h1,h2,h3],by simp[hw]⟩
 ·obtain rfl:j=l.length:=by omega
  have e:Ez l=decide (l.length≤6):=by unfold Ez;rw[hr];rfl
  by_cases h5:l.length≤6
  ·have h5':(l.length:Int)≤6:=by omega
   simp -implicitDefEqProofs [e,h5,h5']
  ·have h5':¬(l.length:Int)≤6:=by omega
   simp -implicitDefEqProofs [e,h5,h5']
def Bl (l:List Ext):List Int:=l.map (·.tag)
theorem Amj {l:List Ext} {j:Nat} (h:j<l.length):Bl (l.take (j+1))=Bl (l.take j)++ [l[j].tag]:=by
 have e:l.take (j+1)=l.take j++ [l[j]]:=by simp
 unfold Bl
 rw[e,List.map_append];rfl
abbrev VN (R:Rel):Prop:=∀l:List Ext,l.length≤4194304→R [.sl 1 2 l.length (l.flatMap CW)] [] (.sl 0 1 (Bl l).length (ints (Bl l))) []
theorem Aoe (D:Dn):VN (Body D Py):=by
 intro l hl
 simp -implicitDefEqProofs
 refine Af (fun k s=>∃j o1 o2,j+k=l.length∧s=⟨[.sl 1 2 l.length (l.flatMap CW),.undef,.arr 3,I j,.undef],[.free,o1,o2,.arr 1 0 (Bl (l.take j)).length (ints (Bl (l.take j)))]⟩) ?_ (l.length) _ ⟨0,.free,.free,by simp,by simp[Bl]⟩
 intro k s ⟨j,o1,o2,hj,hs⟩
 subst hs
 by_cases hjn:j<l.length
 ·have hw:IntKind.i64.wrap ((j:Int)+1)=(j+1:Nat):=by rw[Ab (by omega) (by omega)];simp
  have hst:=Amj hjn
  have hlen:(Bl (l.take j)).length=j:=by simp[Bl];omega
  have hb:(j+1)*8≤1099511627776:=by omega
  simp -implicitDefEqProofs [hjn,hlen,hb]
  exact⟨k-1,by omega,j+1,by omega,by simp[hw],by rw[hst];simp[hlen],by rw[hst]⟩
 ·have e:l.take j=l:=List.take_of_length_le (by omega)
  simp -implicitDefEqProofs [hjn,e]
end Go.Eng.T
namespace Go.Eng.T
set_option maxRecDepth 20000
def kept (p:Int→Bool) (l:List Ext):List Ext:=l.filter fun x=>p x.tag
theorem RP {p:Int→Bool} {l:List Ext} {j:Nat} (h:j<l.length):kept p (l.take (j+1))=kept p (l.take j)++(if p l[j].tag then [l[j]]else []):=Abq (p:=fun x:Ext=>p x.tag) h
theorem QG {p:Int→Bool} {l:List Ext} {j:Nat} (h:l.length≤j):kept p (l.take j)=kept p l:=Aen h
theorem Qr {p:Int→Bool} {l:List Ext} {j:Nat}:(kept p (l.take j)).length≤j:=Aeb
theorem Qj {l:List Ext} (h:OI l) (p:Int→Bool):OI (kept p l):=Ajo h _
theorem OD {p:Int→Bool} {l:List Ext} {j:Nat} (h:j<l.length) (hp:p l[j].tag=true):
 (kept p (l.take j)).flatMap CW++ [.sc (.int .i64 l[j].tag),.sl 0 1 l[j].body.length (ints l[j].body)]=(kept p (l.take (j+1))).flatMap CW:=by
 rw[RP h,if_pos hp,List.flatMap_append];simp
theorem GX {p:Int→Bool} {l:List Ext} {j:Nat} (h:j<l.length) (hp:p l[j].tag=true):(kept p (l.take (j+1))).length=(kept p (l.take j)).length+1:=by
 rw[RP h,if_pos hp];simp
theorem RJ {p:Int→Bool} {l:List Ext} {j:Nat} (h:j<l.length) (hp:¬p l[j].tag=true):kept p (l.take (j+1))=kept p (l.take j):=by
 rw[RP h,if_neg hp,List.append_nil]
abbrev U0 (R:Rel):Prop:=∀l:List Ext,OI l→R [.sl 1 2 l.length (l.flatMap CW)] [] (.sl 0 2 l.length (l.flatMap CW)) []
def XK (l:List Ext):List Ext:=kept (fun t=> !AX t) l
def Lv (l:List Ext) (tags:List Int):List Ext:=kept (fun t=>decide (t∈tags)) l
abbrev Lp (R:Rel):Prop:=∀l:List Ext,OI l→R [.sl 1 2 l.length (l.flatMap CW)] [] (.sl 0 2 (XK l).length ((XK l).flatMap CW)) []
abbrev Ri (R:Rel):Prop:=∀(l:List Ext) (tags:List Int),OI l→tags.length≤maxLen→R [.sl 1 2 l.length (l.flatMap CW),.sl 1 1 tags.length (ints tags)] [] (.sl 0 2 (Lv l tags).length ((Lv l tags).flatMap CW)) []
theorem AjT {a:List Int} {r:List V} (h:Mi r):Mi (.rptr 1 [.sl 0 1 a.length (ints a)] 0::r):=Aa9 (fun H=>by simp) (fun H=>by simp) h
theorem AjM (D:Dn) (hH:P5 (D Gi)):Ri (Body D ND):=by
 intro l tags hl ht
 have hll:=hl.1
 have hres:Lv l tags=kept (fun t=>decide (t∈tags)) l:=rfl
 rw[hres]
 generalize hp:(fun t=>decide (t∈tags))=p
 simp -implicitDefEqProofs
 refine Af (fun k s=>∃j o1 o2 o3 o4,j+k=l.length∧s=⟨[.sl 1 2 l.length (l.flatMap CW),.sl 1 1 tags.length (ints tags),.undef,.arr 5,I j,.undef,.undef],[.free,o1,o2,o3,o4,.arr 2 0 (kept p (l.take j)).length ((kept p (l.take j)).flatMap CW)]⟩) ?_ (l.length) _ ⟨0,.free,.free,.free,.free,by simp,by simp[kept]⟩
 intro k s ⟨j,o1,o2,o3,o4,hj,hs⟩
 subst hs
 by_cases hjn:j<l.length
 ·have hw:IntKind.i64.wrap ((j:Int)+1)=(j+1:Nat):=by rw[Ab (by omega) (by omega)];simp
  have hb:=O4 hl hjn
  have h1:l[j].body.length*8≤1099511627776:=by omega
  have hkl:=Qr (p:=p) (l:=l) (j:=j)
  have h2:((kept p (l.take j)).length+1)*32≤1099511627776:=by omega
  simp -implicitDefEqProofs [hjn]
  refine Aa (hH tags l[j].tag ht) ?_
  have hpe:decide (l[j].tag∈tags)=p l[j].tag:=by rw[←hp]
  rw[hpe]
  by_cases he:p l[j].tag=true
  ·have hst:=OD hjn he
   have hsl:=GX hjn he
   simp -implicitDefEqProofs [he,hjn,h1,h2]
   exact⟨k-1,by omega,j+1,by omega,by simp[hw],by rw[hsl],by rw[←hst]⟩
  ·have hst:=RJ hjn he
   simp -implicitDefEqProofs [he]
   exact⟨k-1,by omega,j+1,by omega,by simp[hw],by rw[hst],by rw[hst]⟩
 ·have e:=QG (p:=p) (l:=l) (j:=j) (by omega)
  simp -implicitDefEqProofs [hjn,e]
theorem AbB (D:Dn) (hR:EL (D JZ)):Lp (Body D Jg):=by
 intro l hl
 have hll:=hl.1
 have hres:XK l=kept (fun t=> !AX t) l:=rfl
 rw[hres]
 generalize hp:(fun t=> !AX t)=p
 simp -implicitDefEqProofs
 refine Af (fun k s=>∃j o1 o2 o3 o4,j+k=l.length∧s=⟨[.sl 1 2 l.length (l.flatMap CW),.undef,.arr 5,I j,.undef,.undef],[.free,o1,o2,o3,o4,.arr 2 0 (kept p (l.take j)).length ((kept p (l.take j)).flatMap CW)]⟩) ?_ (l.length) _ ⟨0,.free,.free,.free,.free,by simp,by simp[kept]⟩
 intro k s ⟨j,o1,o2,o3,o4,hj,hs⟩
 subst hs
 by_cases hjn:j<l.length
 ·have hw:IntKind.i64.wrap ((j:Int)+1)=(j+1:Nat):=by rw[Ab (by omega) (by omega)];simp
  have hb:=O4 hl hjn
  have h1:l[j].body.length*8≤1099511627776:=by omega
  have hkl:=Qr (p:=p) (l:=l) (j:=j)
  have h2:((kept p (l.take j)).length+1)*32≤1099511627776:=by omega
  simp -implicitDefEqProofs [hjn]
  refine Aa (hR l[j].tag) ?_
  have hpe:(!AX l[j].tag)=p l[j].tag:=by rw[←hp]
  by_cases he:p l[j].tag=true
  ·have hst:=OD hjn he
   have hsl:=GX hjn he
   have he':AX l[j].tag=false:=by rw[he]at hpe;simpa using hpe
   simp -implicitDefEqProofs [he',hjn,h1,h2]
   exact⟨k-1,by omega,j+1,by omega,by simp[hw],by rw[hsl],by rw[←hst]⟩
  ·have hst:=RJ hjn he
   have he':AX l[j].tag=true:=by simp at he;rw[he]at hpe;simpa using hpe
   simp -implicitDefEqProofs [he']
   exact⟨k-1,by omega,j+1,by omega,by simp[hw],by rw[hst],by rw[hst]⟩
 ·have e:=QG (p:=p) (l:=l) (j:=j) (by omega)
  simp -implicitDefEqProofs [hjn,e]
theorem AjK (l:List Ext):Lv l (Bl l)=l:=by
 unfold Lv kept
 rw[List.filter_eq_self]
 intro x hx
 simp only[decide_eq_true_eq]
 exact List.mem_map.2 ⟨x,hx,rfl⟩
theorem Vd (l:List Ext):(Bl l).length=l.length:=by simp[Bl]
theorem AmL (D:Dn) (hT:VN (D VW)) (hK:Ri (D SB)):U0 (Body D NN):=by
 intro l hl
 have hll:=hl.1
 simp -implicitDefEqProofs
 refine Aa (hT l hll) ?_
 simp -implicitDefEqProofs
 refine Aa (hK l (Bl l) hl (by rw[Vd];unfold maxLen;omega)) ?_
 simp -implicitDefEqProofs [AjK]
end Go.Eng.T
namespace Go.Eng.T
set_option maxRecDepth 20000
def hB (h:Hello):Prop:=h.versions.length≤4194304∧OI h.exts
def D9 (h:Hello):Bool:=AP h.versions&&Ez h.exts
abbrev F9 (R:Rel):Prop:=∀h:Hello,hB h→R [arg (Cz h)] [] (B (D9 h)) []
theorem Akw (D:Dn) (hA:BM (D DL)) (hE:KO (D G6)):F9 (Body D Nz):=by
 intro h hh
 simp -implicitDefEqProofs
 refine Aa (hA _ (by have:=hh.1;unfold maxLen;omega)) ?_
 by_cases h1:AP h.versions=true
 rotate_left
 ·simp -implicitDefEqProofs [h1,D9]
 simp -implicitDefEqProofs [h1]
 refine Aa (hE _ hh.2) ?_
 simp -implicitDefEqProofs [h1,D9]
abbrev QW (R:Rel):Prop:=∀h:Hello,hB h→R [arg (Cz h)] [] (.agg (Cz h)) []
theorem Aju (D:Dn) (hE:U0 (D SX)):QW (Body D Mc):=by
 intro h hh
 have h1:h.versions.length*8≤1099511627776:=by have:=hh.1;omega
 simp -implicitDefEqProofs [h1]
 refine Aa (hE _ hh.2) ?_
 simp -implicitDefEqProofs
def lossy (b:Fa) (x:Ext):Bool:=decide (x.tag∈b.drops)||(b.lists&&(!decide (x.tag∈b.strips)&& !decide (NA x.tag 1 3)))
def AtO (vs:List Int):Int:=vs.getLastD 0
def QV (b:Fa) (h:Hello):Bool:=(decide (0<b.limit)&&decide (b.limit<AtO h.versions))||h.exts.any (lossy b)
def stays (b:Fa) (t:Int):Bool:= !decide (t∈b.strips)
def Bd:Hello:=⟨[],[]⟩
def Cn (b:Fa) (h:Hello):Hello×Bool:=if FT b&&(D9 h&& !QV b h)then(⟨h.versions,kept (stays b) h.exts⟩,true)else(Bd,false)
abbrev Vu (R:Rel):Prop:=∀(b:Fa) (h:Hello),KP b→hB h→R [arg (Cm b),arg (Cz h)] [] (.tup [.agg (Cz (Cn b h).1),B (Cn b h).2]) []
theorem Abg {xs:List Int} (h:AP xs=true):0<xs.length:=by
 unfold AP at h
 simp only[Bool.and_eq_true,decide_eq_true_eq]at h
 exact h.2
theorem Aur {xs:List Int} (h:xs.length-1<xs.length):AtO xs=xs[xs.length-1]:=by
 unfold AtO
 rw[List.getLastD_eq_getLast?,List.getLast?_eq_getElem?,List.getElem?_eq_getElem h];rfl
theorem Ajt (D:Dn) (hX:O1 (D Yx)) (hE:F9 (D EH)) (hH:P5 (D Gi)) (hI:Sk (D CQ)):Vu (Body D Nv):=by
 intro b h hb hh
 obtain⟨hv,hx⟩:=hh
 have hll:=hx.1
 simp -implicitDefEqProofs
 refine Aa (hX b hb) ?_
 by_cases h1:FT b=true
 rotate_left
 ·simp -implicitDefEqProofs [h1,Cn,Bd]
 simp -implicitDefEqProofs [h1]
 refine Aa (hE h ⟨hv,hx⟩) ?_
 by_cases h2:D9 h=true
 rotate_left
 ·simp -implicitDefEqProofs [h2,Cn,Bd]
 have hpos:0<h.versions.length:=Abg (by unfold D9 at h2;simp only[Bool.and_eq_true]at h2;exact h2.1)
 have hn1:h.versions.length-1<h.versions.length:=by omega
 have hw1:IntKind.i64.wrap ((h.versions.length:Int)-1)=((h.versions.length-1:Nat):Int):=by rw[Ab (by omega) (by omega)];omega
 have htop:=Aur hn1
 by_cases h3:0<b.limit
 ·by_cases h4:b.limit<h.versions[h.versions.length-1]
  ·have e:Cn b h=(Bd,false):=by simp[Cn,QV,htop,h3,h4]
   simp -implicitDefEqProofs [h2,h3,hw1,hn1,hpos,h4,e,Bd]
  ·have h3':b.limit<AtO h.versions↔False:=by rw[htop];simpa using h4
   have b0:h.versions.length*8≤1099511627776:=by omega
   simp -implicitDefEqProofs [h2,h3,hw1,hn1,hpos,h4,b0]
   refine Af (fun k s=>∃j v8 o6 o7 o8 o9,j+k=h.exts.length∧(h.exts.take j).any (lossy b)=false∧s=⟨[.undef,.undef,.ptr 0 0,.ptr 1 0,.ptr 2 0,.undef,.ptr 5 0,I j,v8,.undef,.undef,.undef,.undef,.undef],[.var ((Cm b).map (AA 1)),.var ((Cz h).map (AA 1)),.var [.nil 1,.nil 2],.dead,.arr 1 0 h.versions.length (ints h.versions),.var [.arr 4,.arr 10],o6,o7,o8,o9,.arr 2 0 (kept (stays b) (h.exts.take j)).length ((kept (stays b) (h.exts.take j)).flatMap CW)]⟩) ?_ (h.exts.length) _ ⟨0,.undef,.free,.free,.free,.free,by simp,by simp,by simp[kept]⟩
   intro k s ⟨j,v8,o6,o7,o8,o9,hj,hp,hs⟩
   subst hs
   by_cases hjn:j<h.exts.length
   ·have hw:IntKind.i64.wrap ((j:Int)+1)=(j+1:Nat):=by rw[Ab (by omega) (by omega)];simp
    have hbd:=O4 hx hjn
    have b1:h.exts[j].body.length*8≤1099511627776:=by omega
    have hkl:=Qr (p:=stays b) (l:=h.exts) (j:=j)
    have b2:((kept (stays b) (h.exts.take j)).length+1)*32≤1099511627776:=by omega
    have hst:=AaH (p:=lossy b) hjn
    rw[hp,Bool.false_or]at hst
    simp -implicitDefEqProofs [hjn]
    refine Aa (hH _ _ hb.2) ?_
    simp -implicitDefEqProofs
    refine Aa (hH _ _ hb.1) ?_
    by_cases g1:h.exts[j].tag∈b.drops
    ·have e:Cn b h=(Bd,false):=by
      have:=Qg (p:=lossy b) hjn (by simp[lossy,g1])
      simp[Cn,QV,this]
     simp -implicitDefEqProofs [g1,e,Bd]
    by_cases g2:h.exts[j].tag∈b.strips
    ·have hl:lossy b h.exts[j]=false:=by simp[lossy,g1,g2]
     have hk:=RJ (p:=stays b) hjn (by simp[stays,g2])
     by_cases g3:b.lists=true
     ·simp -implicitDefEqProofs [g1,g2,g3]
      exact⟨k-1,by omega,j+1,by omega,by simpa using hst.trans hl,by simp[hw],by rw[hk],by rw[hk]⟩
     ·simp -implicitDefEqProofs [g1,g2,g3]
      exact⟨k-1,by omega,j+1,by omega,by simpa using hst.trans hl,by simp[hw],by rw[hk],by rw[hk]⟩
    have hk:=OD (p:=stays b) hjn (by simp[stays,g2])
    have hkl:=GX (p:=stays b) hjn (by simp[stays,g2])
    by_cases g3:b.lists=true
    rotate_left
    ·have hl:lossy b h.exts[j]=false:=by simp[lossy,g1,g2,g3]
     simp -implicitDefEqProofs [g1,g2,g3,hjn,b1,b2]
     exact⟨k-1,by omega,j+1,by omega,by simpa using hst.trans hl,by simp[hw],by rw[hkl],by rw[←hk]⟩
    simp -implicitDefEqProofs [g1,g2,g3]
    refine Aa (hI _ _ _) ?_
    by_cases g4:NA h.exts[j].tag 1 3
    ·have hl:lossy b h.exts[j]=false:=by simp[lossy,g1,g2,g3,g4]
     simp -implicitDefEqProofs [g4,hjn,b1,b2]
     exact⟨k-1,by omega,j+1,by omega,by simpa using hst.trans hl,by simp[hw],by rw[hkl],by rw[←hk]⟩
    ·have e:Cn b h=(Bd,false):=by
      have:=Qg (p:=lossy b) hjn (by simp[lossy,g1,g2,g3,g4])
      simp[Cn,QV,this]
     simp -implicitDefEqProofs [g4,e,Bd]
   ·have hje:j=h.exts.length:=by omega
    have ea:h.exts.any (lossy b)=false:=any_none (by omega) hp
    have ek:=QG (p:=stays b) (l:=h.exts) (j:=j) (by omega)
    have e:Cn b h=(⟨h.versions,kept (stays b) h.exts⟩,true):=by simp only[Cn,h1,h2,QV,ea,h3'];simp
    simp -implicitDefEqProofs [hjn,e,ek]
 ·have b0:h.versions.length*8≤1099511627776:=by omega
  simp -implicitDefEqProofs [h2,h3,b0]
  refine Af (fun k s=>∃j v8 o6 o7 o8 o9,j+k=h.exts.length∧(h.exts.take j).any (lossy b)=false∧s=⟨[.undef,.undef,.ptr 0 0,.ptr 1 0,.ptr 2 0,.undef,.ptr 5 0,I j,v8,.undef,.undef,.undef,.undef,.undef],[.var ((Cm b).map (AA 1)),.var ((Cz h).map (AA 1)),.var [.nil 1,.nil 2],.dead,.arr 1 0 h.versions.length (ints h.versions),.var [.arr 4,.arr 10],o6,o7,o8,o9,.arr 2 0 (kept (stays b) (h.exts.take j)).length ((kept (stays b) (h.exts.take j)).flatMap CW)]⟩) ?_ (h.exts.length) _ ⟨0,.undef,.free,.free,.free,.free,by simp,by simp,by simp[kept]⟩
  intro k s ⟨j,v8,o6,o7,o8,o9,hj,hp,hs⟩
  subst hs
  by_cases hjn:j<h.exts.length
  ·have hw:IntKind.i64.wrap ((j:Int)+1)=(j+1:Nat):=by rw[Ab (by omega) (by omega)];simp
   have hbd:=O4 hx hjn
   have b1:h.exts[j].body.length*8≤1099511627776:=by omega
   have hkl:=Qr (p:=stays b) (l:=h.exts) (j:=j)
   have b2:((kept (stays b) (h.exts.take j)).length+1)*32≤1099511627776:=by omega
   have hst:=AaH (p:=lossy b) hjn
   rw[hp,Bool.false_or]at hst
   simp -implicitDefEqProofs [hjn]
   refine Aa (hH _ _ hb.2) ?_
   simp -implicitDefEqProofs
   refine Aa (hH _ _ hb.1) ?_
   by_cases g1:h.exts[j].tag∈b.drops
   ·have e:Cn b h=(Bd,false):=by
     have:=Qg (p:=lossy b) hjn (by simp[lossy,g1])
     simp[Cn,QV,this]
    simp -implicitDefEqProofs [g1,e,Bd]
   by_cases g2:h.exts[j].tag∈b.strips
   ·have hl:lossy b h.exts[j]=false:=by simp[lossy,g1,g2]
    have hk:=RJ (p:=stays b) hjn (by simp[stays,g2])
    by_cases g3:b.lists=true
    ·simp -implicitDefEqProofs [g1,g2,g3]
     exact⟨k-1,by omega,j+1,by omega,by simpa using hst.trans hl,by simp[hw],by rw[hk],by rw[hk]⟩
    ·simp -implicitDefEqProofs [g1,g2,g3]
     exact⟨k-1,by omega,j+1,by omega,by simpa using hst.trans hl,by simp[hw],by rw[hk],by rw[hk]⟩
   have hk:=OD (p:=stays b) hjn (by simp[stays,g2])
   have hkl:=GX (p:=stays b) hjn (by simp[stays,g2])
   by_cases g3:b.lists=true
   rotate_left
   ·have hl:lossy b h.exts[j]=false:=by simp[lossy,g1,g2,g3]
    simp -implicitDefEqProofs [g1,g2,g3,hjn,b1,b2]
    exact⟨k-1,by omega,j+1,by omega,by simpa using hst.trans hl,by simp[hw],by rw[hkl],by rw[←hk]⟩
   simp -implicitDefEqProofs [g1,g2,g3]
   refine Aa (hI _ _ _) ?_
   by_cases g4:NA h.exts[j].tag 1 3
   ·have hl:lossy b h.exts[j]=false:=by simp[lossy,g1,g2,g3,g4]
    simp -implicitDefEqProofs [g4,hjn,b1,b2]
    exact⟨k-1,by omega,j+1,by omega,by simpa using hst.trans hl,by simp[hw],by rw[hkl],by rw[←hk]⟩
   ·have e:Cn b h=(Bd,false):=by
     have:=Qg (p:=lossy b) hjn (by simp[lossy,g1,g2,g3,g4])
     simp[Cn,QV,this]
    simp -implicitDefEqProofs [g4,e,Bd]
  ·have hje:j=h.exts.length:=by omega
   have ea:h.exts.any (lossy b)=false:=any_none (by omega) hp
   have ek:=QG (p:=stays b) (l:=h.exts) (j:=j) (by omega)
   have e:Cn b h=(⟨h.versions,kept (stays b) h.exts⟩,true):=by simp only[Cn,h1,h2,QV,ea,h3];simp
   simp -implicitDefEqProofs [hjn,e,ek]
theorem AfK:∀(xs:List Int) (a:Int),(∀x,x∈xs→a≤x)→(∀i,(h:i+1<xs.length)→xs[i]≤xs[i+1])→xs.foldl max a=(xs.getLast?.getD a)
 | [],a,_,_=>rfl
 | x::r,a,h1,h2=>by
  have hx:=h1 x (by simp)
  have hr:∀y,y∈r→x≤y:=by
   intro y hy
   obtain⟨n,hn,rfl⟩:=List.getElem_of_mem hy
   have key:∀m,(hm:m<r.length)→x≤r[m]:=by
    intro m
    induction m with
    | zero=>intro hm;have:=h2 0 (by simp;omega);simpa using this
    | succ m ih=>
     intro hm
     have h3:=ih (by omega)
     have:=h2 (m+1) (by simp;omega)
     simp only[List.getElem_cons_succ]at this
     omega
   exact key n hn
  have ih:=AfK r x hr (fun i h=>by have:=h2 (i+1) (by simp;omega);simpa using this)
  simp only[List.foldl_cons]
  rw[show max a x=x by omega,ih]
  cases r with
  | nil=>rfl
  | cons y s=>simp[List.getLast?_cons_cons,List.getLast?_cons]
end Go.Eng.T
namespace Go.Eng.T
set_option maxRecDepth 20000
def H8:List Fa→Hello→Hello×Bool
 | [],h=>(h,true)
 | b::r,h=>if(Cn b h).2=true then H8 r (Cn b h).1 else(Bd,false)
theorem AiA {path:List Fa} {j:Nat} {x:Hello} (h:j<path.length):H8 (path.drop j) x=if(Cn path[j] x).2=true then H8 (path.drop (j+1)) (Cn path[j] x).1 else(Bd,false):=by
 rw[List.drop_eq_getElem_cons h];rfl
theorem Akn {path:List Fa} {j:Nat} {x:Hello} (h:path.length≤j):H8 (path.drop j) x=(x,true):=by rw[List.drop_eq_nil_of_le h];rfl
def Bq (path:List Fa) (h:Hello):Hello×Bool:=if decide (path.length≤4)&&D9 h then H8 path h else(Bd,false)
theorem AbC:hB Bd:=⟨by simp[Bd],AfZ⟩
theorem Al1 {b:Fa} {h:Hello} (hh:hB h):hB (Cn b h).1:=by
 unfold Cn
 split
 ·exact⟨hh.1,Qj hh.2 _⟩
 ·exact AbC
abbrev JX (R:Rel):Prop:=∀(path:List Fa) (h:Hello),lnS KP path→hB h→R [.sl 1 4 path.length (path.flatMap Cm),arg (Cz h)] [] (.tup [.agg (Cz (Bq path h).1),B (Bq path h).2]) []
theorem Ait (D:Dn) (hE:F9 (D EH)) (hC:QW (D Rf)) (hP:Vu (D Adk)):JX (Body D MB):=by
 intro path h hb hh
 have hl:=hb.1
 unfold maxLen at hl
 by_cases h1:path.length≤4
 rotate_left
 ·have h1':(4:Int)<path.length:=by omega
  simp -implicitDefEqProofs [h1',h1,Bq,Bd]
 have h1':¬(4:Int)<path.length:=by omega
 simp -implicitDefEqProofs [h1']
 refine Aa (hE h hh) ?_
 by_cases h2:D9 h=true
 rotate_left
 ·simp -implicitDefEqProofs [h2,h1,Bq,Bd]
 have e:Bq path h=H8 path h:=by simp[Bq,h1,h2]
 rw[e]
 simp -implicitDefEqProofs [h2]
 refine Aa (hC h hh) ?_
 simp -implicitDefEqProofs
 refine Af (fun k s=>∃j x o5 o6 o7,j+k=path.length∧hB x∧H8 path h=H8 (path.drop j) x∧s=⟨[.sl 1 4 path.length (path.flatMap Cm),.undef,.undef,.ptr 1 0,.undef,.ptr 4 0,I j,.undef,.undef,.undef,.undef,.undef],[.var ((Cz h).map (AA 1)),.var [.nil 1,.nil 2],.free,.free,.var [.arr 8,.arr 9],o5,o6,o7,.arr 1 0 x.versions.length (ints x.versions),.arr 2 0 x.exts.length (x.exts.flatMap CW)]⟩) ?_ (path.length) _ ⟨0,h,.free,.free,.free,by simp,hh,by simp,by simp⟩
 intro k s ⟨j,x,o5,o6,o7,hj,hx,hg,hs⟩
 subst hs
 by_cases hjn:j<path.length
 ·have hw:IntKind.i64.wrap ((j:Int)+1)=(j+1:Nat):=by rw[Ab (by omega) (by omega)];simp
  rw[AiA hjn]at hg
  simp -implicitDefEqProofs [hjn]
  refine Aa (hP path[j] x (hb.2 j hjn) hx) ?_
  have hx':=Al1 (b:=path[j]) hx
  generalize Cn path[j] x=r at hg hx'
  by_cases hk:r.2=true
  ·rw[if_pos hk]at hg
   simp -implicitDefEqProofs [hk]
   refine⟨k-1,by omega,j+1,by omega,r.1,hx',?_⟩
   simp[hw,hg]
  ·rw[if_neg hk]at hg
   simp -implicitDefEqProofs [hk,hg,Bd]
 ·rw[Akn (by omega)]at hg
  simp -implicitDefEqProofs [hjn,hg]
theorem Oj {α:Type} {p:α→Bool} {xs:List α} {j:Nat} (h:j<xs.length) (hp:p xs[j]=false):xs.all p=false:=List.all_eq_false.2 ⟨_,List.getElem_mem h,by simp[hp]⟩
theorem Q8 {α:Type} {p:α→Bool} {xs:List α} {j:Nat} (h:j<xs.length):(xs.take (j+1)).all p=((xs.take j).all p&&p xs[j]):=by
 have e:xs.take (j+1)=xs.take j++ [xs[j]]:=by simp
 rw[e,List.all_append];simp
theorem VX {α:Type} {p:α→Bool} {xs:List α} {j:Nat} (h:xs.length≤j):(xs.take j).all p=xs.all p:=by rw[List.take_of_length_le h]
abbrev KG (R:Rel):Prop:=∀xs:List Int,xs.length≤4194304→R [.sl 1 1 xs.length (ints xs)] [] (.agg (Cz ⟨xs,[]⟩)) []
theorem AcZ (D:Dn):KG (Body D JE):=by
 intro xs h
 have h1:xs.length*8≤1099511627776:=by omega
 simp -implicitDefEqProofs [h1]
def isOpen (path:List Fa) (vs:List Int):Bool:=AP vs&&(Bq path ⟨vs.take 1,[]⟩).2
abbrev KF (R:Rel):Prop:=∀(path:List Fa) (vs:List Int),lnS KP path→vs.length≤4194304→R [.sl 1 4 path.length (path.flatMap Cm),.sl 1 1 vs.length (ints vs)] [] (B (isOpen path vs)) []
theorem Adx (D:Dn) (hA:BM (D DL)) (hH:KG (D OB)) (hP:JX (D Jk)):KF (Body D JK):=by
 intro path vs hb hv
 simp -implicitDefEqProofs
 refine Aa (hA vs (by unfold maxLen;omega)) ?_
 by_cases h1:AP vs=true
 rotate_left
 ·simp -implicitDefEqProofs [h1,isOpen]
 have hpos:=Abg h1
 have h1l:(1:Int)≤vs.length:=by omega
 have h1n:1≤vs.length:=by omega
 have hlen:(vs.take 1).length=1:=by simp;omega
 have hmin:min 1 vs.length=1:=by omega
 simp -implicitDefEqProofs [h1,h1l,h1n]
 have hh:=hH (vs.take 1) (by omega)
 rw[hlen]at hh
 refine Aa (hh) ?_
 simp -implicitDefEqProofs [hmin]
 have hp:=hP path ⟨vs.take 1,[]⟩ hb ⟨by simp;omega,AfZ⟩
 simp -implicitDefEqProofs [hmin]at hp
 refine Aa (hp) ?_
 simp -implicitDefEqProofs [isOpen,h1]
def Qq (path:List Fa) (v:Int):Bool:= !(Bq path ⟨[v],[]⟩).2
def CG (path:List Fa) (vs:List Int):List Int:=if AP vs=true then vs.filter (Qq path)else []
abbrev Kk (R:Rel):Prop:=∀(path:List Fa) (vs:List Int),lnS KP path→vs.length≤4194304→R [.sl 1 4 path.length (path.flatMap Cm),.sl 1 1 vs.length (ints vs)] [] (.sl 0 1 (CG path vs).length (ints (CG path vs))) []
theorem AkB (path:List Fa) (v:Int):isOpen path [v]= !Qq path v:=by
 unfold isOpen Qq
 by_cases h:AP [v]=true
 ·simp[h]
 ·have:Bq path ⟨[v],[]⟩=(Bd,false):=by
   unfold Bq D9
   have h':AP [v]=false:=by simpa using h
   simp[h']
  simp[h,this]
theorem YP (D:Dn) (hA:BM (D DL)) (hO:KF (D Ob)):Kk (Body D Ik):=by
 intro path vs hb hv
 by_cases h1:AP vs=true
 rotate_left
 ·have e:CG path vs=[]:=by unfold CG;rw[if_neg h1]
  rw[e]
  simp -implicitDefEqProofs
  refine Af (fun k s=>s=⟨[.sl 1 4 path.length (path.flatMap Cm),.sl 1 1 vs.length (ints vs),.undef,.arr 3,I 0,.undef,.undef],[.free,.free,.free,.arr 1 0 0 (ints [])]⟩) ?_ 0 _ (by simp)
  intro k s hs
  subst hs
  by_cases h0:0<vs.length
  ·simp -implicitDefEqProofs [h0]
   refine Aa (hA vs (by unfold maxLen;omega)) ?_
   simp -implicitDefEqProofs [h1]
  ·simp -implicitDefEqProofs [h0]
 have e:CG path vs=vs.filter (Qq path):=by unfold CG;rw[if_pos h1]
 rw[e]
 simp -implicitDefEqProofs
 refine Af (fun k s=>∃j o1 o2,j+k=vs.length∧s=⟨[.sl 1 4 path.length (path.flatMap Cm),.sl 1 1 vs.length (ints vs),.undef,.arr 3,I j,.undef,.undef],[.free,o1,o2,.arr 1 0 ((vs.take j).filter (Qq path)).length (ints ((vs.take j).filter (Qq path)))]⟩) ?_ (vs.length) _ ⟨0,.free,.free,by simp,by simp⟩
 intro k s ⟨j,o1,o2,hj,hs⟩
 subst hs
 by_cases hjn:j<vs.length
 ·have hw:IntKind.i64.wrap ((j:Int)+1)=(j+1:Nat):=by rw[Ab (by omega) (by omega)];simp
  have hst:=Iq (p:=Qq path) hjn
  have hfl:=Kw (p:=Qq path) (xs:=vs) (j:=j)
  have hb1:(((vs.take j).filter (Qq path)).length+1)*8≤1099511627776:=by omega
  have hw1:IntKind.i64.wrap ((j:Int)+1)=(j:Int)+1:=Ab (by omega) (by omega)
  have hj1:j+1≤vs.length:=by omega
  have hj2:(j:Int)+1≤vs.length:=by omega
  have hdt:(vs.drop j).take 1=[vs[j]]:=by rw[List.drop_eq_getElem_cons hjn];rfl
  simp -implicitDefEqProofs [hjn]
  refine Aa (hA vs (by unfold maxLen;omega)) ?_
  have hjj:(j:Int)≤(j:Int)+1:=by omega
  have h11:j+1-j=1:=by omega
  simp -implicitDefEqProofs [h1,hw1,hj1,hj2,hdt,hjn,hjj,h11]
  refine Aa (hO path [vs[j]] hb (by simp)) ?_
  rw[AkB]
  by_cases h2:Qq path vs[j]=true
  ·rw[if_pos h2]at hst
   simp -implicitDefEqProofs [h2,hjn,hb1]
   exact⟨k-1,by omega,j+1,by omega,by simp[hw],by rw[hst];simp,by rw[hst]⟩
  ·rw[if_neg h2,List.append_nil]at hst
   simp -implicitDefEqProofs [h2]
   exact⟨k-1,by omega,j+1,by omega,by simp[hw],by rw[hst],by rw[hst]⟩
 ·have e2:=KJ (p:=Qq path) (xs:=vs) (j:=j) (by omega)
  simp -implicitDefEqProofs [hjn,e2]
end Go.Eng.T
namespace Go.Eng.T
set_option maxRecDepth 20000
set_option maxHeartbeats 1000000
def leftOf (a b:List Int):List Int:=a.filter fun v=> !decide (v∈b)
abbrev VL (R:Rel):Prop:=∀a b:List Int,a.length≤4194304→b.length≤4194304→R [.sl 1 1 a.length (ints a),.sl 1 1 b.length (ints b)] [] (.sl 0 1 (leftOf a b).length (ints (leftOf a b))) []
theorem Am1 (D:Dn) (hH:P5 (D Gi)):VL (Body D NP):=by
 intro a b ha hb
 have hres:leftOf a b=a.filter (fun v=> !decide (v∈b)):=rfl
 rw[hres]
 simp -implicitDefEqProofs
 refine Af (fun k s=>∃j o1 o2,j+k=a.length∧s=⟨[.sl 1 1 a.length (ints a),.sl 1 1 b.length (ints b),.undef,.arr 3,I j,.undef,.undef],[.free,o1,o2,.arr 1 0 ((a.take j).filter (fun v=> !decide (v∈b))).length (ints ((a.take j).filter (fun v=> !decide (v∈b))))]⟩) ?_ (a.length) _ ⟨0,.free,.free,by simp,by simp⟩
 intro k s ⟨j,o1,o2,hj,hs⟩
 subst hs
 by_cases hjn:j<a.length
 ·have hw:IntKind.i64.wrap ((j:Int)+1)=(j+1:Nat):=by rw[Ab (by omega) (by omega)];simp
  have hst:=Iq (p:=fun v=> !decide (v∈b)) hjn
  have hln:=Kw (p:=fun v=> !decide (v∈b)) (xs:=a) (j:=j)
  have hbd:(((a.take j).filter (fun v=> !decide (v∈b))).length+1)*8≤1099511627776:=by omega
  simp -implicitDefEqProofs [hjn]
  refine Aa (hH b _ (by unfold maxLen;omega)) ?_
  by_cases h1:a[j]∈b
  ·rw[if_neg (by simp[h1]),List.append_nil]at hst
   simp -implicitDefEqProofs [h1,hjn,hbd]
   exact⟨k-1,by omega,j+1,by omega,by simp[hw],by rw[hst],by rw[hst]⟩
  ·rw[if_pos (by simp[h1])]at hst
   simp -implicitDefEqProofs [h1,hjn,hbd]
   exact⟨k-1,by omega,j+1,by omega,by simp[hw],by rw[hst];simp,by rw[hst]⟩
 ·have hx:=KJ (p:=fun v=> !decide (v∈b)) (xs:=a) (j:=j) (by omega)
  simp -implicitDefEqProofs [hjn,hx]
def upTo (xs:List Int) (i:Nat):Bool:=decide (i=0)||decide (xs.getD (i-1) 0<xs.getD i 0)
def Eo (xs:List Int):Bool:=M6 (upTo xs) xs.length&&allIn xs 0 255
abbrev IX (R:Rel):Prop:=∀xs:List Int,xs.length≤maxLen→R [.sl 1 1 xs.length (ints xs)] [] (B (Eo xs)) []
theorem Yp {xs:List Int} {j:Nat} (h:j<xs.length) (hn:¬NA xs[j] 0 255):Eo xs=false:=by unfold Eo;rw[AiQ h hn];simp
theorem Rk {xs:List Int} {j:Nat} (h:j<xs.length) (hn:upTo xs j=false):Eo xs=false:=by unfold Eo;rw[AiY h hn];simp
theorem RY (xs:List Int):upTo xs 0=true:=by simp[upTo]
theorem PG {xs:List Int} {j:Nat} (h0:¬j=0) (h:j<xs.length) (h':j-1<xs.length):upTo xs j=decide (xs[j-1]<xs[j]):=by
 unfold upTo
 rw[QA h,QA h']
 simp[h0]
theorem Akk (D:Dn) (hI:Sk (D CQ)):IX (Body D Nk):=by
 intro xs hl
 unfold maxLen at hl
 simp -implicitDefEqProofs
 refine Af (fun k s=>∃j,j+k=xs.length∧allIn (xs.take j) 0 255=true∧M6 (upTo xs) j=true∧s=⟨[.sl 1 1 xs.length (ints xs),.undef,I j,.undef,.undef],[]⟩) ?_ (xs.length) _ ⟨0,by simp,by simp[allIn],by simp,by simp⟩
 intro k s ⟨j,hj,hp,hr,hs⟩
 subst hs
 by_cases hjn:j<xs.length
 ·have hw:IntKind.i64.wrap ((j:Int)+1)=(j+1:Nat):=by rw[Ab (by omega) (by omega)];simp
  have hst:=JL (upTo xs) j
  rw[hr,Bool.true_and]at hst
  simp -implicitDefEqProofs [hjn]
  refine Aa (hI _ _ _) ?_
  by_cases h1:NA xs[j] 0 255
  rotate_left
  ·simp -implicitDefEqProofs [h1,Yp hjn h1]
  by_cases h0:j=0
  ·subst h0
   simp -implicitDefEqProofs [h1]
   exact⟨k-1,by omega,1,by omega,by rw[LX hjn,hp];simp[h1],by rw[hst,RY],by simpa using hw⟩
  ·have hw2:IntKind.i64.wrap ((j:Int)-1)=((j-1:Nat):Int):=by rw[Ab (by omega) (by omega)];omega
   have h2:(0:Int)<j:=by omega
   have h2':0<j:=by omega
   have h3:j-1<xs.length:=by omega
   rw[PG h0 hjn h3]at hst
   by_cases h4:xs[j-1]<xs[j]
   ·have h4':¬xs[j]≤xs[j-1]:=by omega
    simp -implicitDefEqProofs [h1,h2,h2',hw2,h3,hjn,h4']
    exact⟨k-1,by omega,j+1,by omega,by rw[LX hjn,hp];simp[h1],by rw[hst];simp[h4],by simp[hw]⟩
   ·have e:=Rk hjn (by rw[PG h0 hjn h3];simp[h4])
    have h4':xs[j]≤xs[j-1]:=by omega
    simp -implicitDefEqProofs [h1,h2,h2',hw2,h3,hjn,h4',e]
 ·obtain rfl:j=xs.length:=by omega
  have e:Eo xs=true:=by unfold Eo;rw[hr,Xl (by omega) hp];rfl
  simp -implicitDefEqProofs [e]
theorem AjI (D:Dn) (hN:KL (D Od)):IX (Body D NJ):=by
 intro xs hl
 have hl0:=hl
 unfold maxLen at hl
 simp -implicitDefEqProofs
 refine Af (fun k s=>∃j,j+k=xs.length∧M6 (upTo xs) j=true∧s=⟨[.sl 1 1 xs.length (ints xs),.undef,.undef,.undef,.sl 1 1 xs.length (ints xs),I xs.length,I j,.undef,.undef],[]⟩) ?_ (xs.length) _ ⟨0,by simp,by simp,by simp⟩
 intro k s ⟨j,hj,hr,hs⟩
 subst hs
 by_cases hjn:j<xs.length
 ·have hw:IntKind.i64.wrap ((j:Int)+1)=(j+1:Nat):=by rw[Ab (by omega) (by omega)];simp
  have hst:=JL (upTo xs) j
  rw[hr,Bool.true_and]at hst
  by_cases h0:j=0
  ·subst h0
   simp -implicitDefEqProofs [hjn]
   exact⟨k-1,by omega,1,by omega,by rw[hst,RY],by simpa using hw⟩
  ·have hw2:IntKind.i64.wrap ((j:Int)-1)=((j-1:Nat):Int):=by rw[Ab (by omega) (by omega)];omega
   have h2:(0:Int)<j:=by omega
   have h2':0<j:=by omega
   have h3:j-1<xs.length:=by omega
   rw[PG h0 hjn h3]at hst
   by_cases h4:xs[j-1]<xs[j]
   ·have h4':¬xs[j]≤xs[j-1]:=by omega
    simp -implicitDefEqProofs [h2,h2',hw2,h3,hjn,h4']
    exact⟨k-1,by omega,j+1,by omega,by rw[hst];simp[h4],by simp[hw]⟩
   ·have e:=Rk hjn (by rw[PG h0 hjn h3];simp[h4])
    have h4':xs[j]≤xs[j-1]:=by omega
    simp -implicitDefEqProofs [h2,h2',hw2,h3,hjn,h4',e]
 ·obtain rfl:j=xs.length:=by omega
  have e:Eo xs=allIn xs 0 255:=by unfold Eo;rw[hr];rfl
  simp -implicitDefEqProofs
  refine Aa (hN xs _ _ hl0) ?_
  simp -implicitDefEqProofs [e]
def Aq (e:Ak):Bool:=AP e.versions&&(decide (e.tags.length≤5)&&(Eo e.tags&&(!e.tags.any AX&&(decide (e.path.length≤4)&&(e.path.all FT&&decide (NA e.cls 0 5))))))
abbrev EJ (R:Rel):Prop:=∀e:Ak,Ud e→R [arg (Ac e)] [] (B (Aq e)) []
theorem Ada (D:Dn) (hI:Sk (D CQ)) (hR:EL (D JZ)) (hX:O1 (D Yx)) (hA:BM (D DL)):EJ (Body D JJ):=by
 intro e hl
 obtain⟨hl1,hl2,hl3⟩:=hl
 have hl4:=hl3.1
 have hl2':=hl2
 unfold Mg at hl2
 unfold maxLen at hl2 hl4
 simp -implicitDefEqProofs
 refine Af (fun k s=>∃j,j+k=e.tags.length∧allIn (e.tags.take j) 0 255=true∧M6 (upTo e.tags) j=true∧(e.tags.take j).any AX=false∧s=⟨[.undef,.ptr 0 0,.undef,I j,.undef,.undef,.undef,.undef,.undef],[.var ((Ac e).map (AA 1))]⟩) ?_ (e.tags.length) _ ⟨0,by simp,by simp[allIn],by simp,by simp,by simp⟩
 intro k s ⟨j,hj,hp,hr,hq,hs⟩
 subst hs
 by_cases hjn:j<e.tags.length
 ·have hw:IntKind.i64.wrap ((j:Int)+1)=(j+1:Nat):=by rw[Ab (by omega) (by omega)];simp
  have hst:=JL (upTo e.tags) j
  rw[hr,Bool.true_and]at hst
  have hsq:=AaH (p:=AX) hjn
  rw[hq,Bool.false_or]at hsq
  simp -implicitDefEqProofs [hjn]
  refine Aa (hI _ _ _) ?_
  by_cases h1:NA e.tags[j] 0 255
  rotate_left
  ·have e0:Aq e=false:=by unfold Aq;rw[Yp hjn h1];simp
   simp -implicitDefEqProofs [h1,e0]
  simp -implicitDefEqProofs [h1,hjn]
  refine Aa (hR _) ?_
  by_cases h5:AX e.tags[j]=true
  ·have e0:Aq e=false:=by unfold Aq;rw[Qg hjn h5];simp
   simp -implicitDefEqProofs [h5,e0]
  have h5':AX e.tags[j]=false:=by simpa using h5
  by_cases h0:j=0
  ·subst h0
   simp -implicitDefEqProofs [h1,h5']
   exact⟨k-1,by omega,1,by omega,by rw[LX hjn,hp];simp[h1],by rw[hst,RY],by simpa using hsq.trans h5',by simpa using hw⟩
  ·have hw2:IntKind.i64.wrap ((j:Int)-1)=((j-1:Nat):Int):=by rw[Ab (by omega) (by omega)];omega
   have h2:(0:Int)<j:=by omega
   have h2':0<j:=by omega
   have h3:j-1<e.tags.length:=by omega
   rw[PG h0 hjn h3]at hst
   by_cases h4:e.tags[j-1]<e.tags[j]
   ·have h4':¬e.tags[j]≤e.tags[j-1]:=by omega
    simp -implicitDefEqProofs [h1,h5',h2,h2',hw2,h3,hjn,h4']
    exact⟨k-1,by omega,j+1,by omega,by rw[LX hjn,hp];simp[h1],by rw[hst];simp[h4],by simpa using hsq.trans h5',by simp[hw]⟩
   ·have e0:Aq e=false:=by unfold Aq;rw[Rk hjn (by rw[PG h0 hjn h3];simp[h4])];simp
    have h4':e.tags[j]≤e.tags[j-1]:=by omega
    simp -implicitDefEqProofs [h1,h5',h2,h2',hw2,h3,hjn,h4',e0]
 obtain rfl:j=e.tags.length:=by omega
 have et:Eo e.tags=true:=by unfold Eo;rw[hr,Xl (by omega) hp];rfl
 have er:e.tags.any AX=false:=any_none (by omega) hq
 simp -implicitDefEqProofs
 refine Af (fun k s=>∃j,j+k=e.path.length∧(e.path.take j).all FT=true∧s=⟨[.undef,.ptr 0 0,.undef,.undef,I j,.undef,.undef,.undef,.undef],[.var ((Ac e).map (AA 1))]⟩) ?_ (e.path.length) _ ⟨0,by simp,by simp,by simp⟩
 intro k s ⟨j,hj,hb,hs⟩
 subst hs
 by_cases hjn:j<e.path.length
 ·have hw:IntKind.i64.wrap ((j:Int)+1)=(j+1:Nat):=by rw[Ab (by omega) (by omega)];simp
  have hst:=Q8 (p:=FT) hjn
  rw[hb,Bool.true_and]at hst
  simp -implicitDefEqProofs [hjn]
  refine Aa (hX _ (hl3.2 j hjn)) ?_
  by_cases h1:FT e.path[j]=true
  ·simp -implicitDefEqProofs [h1]
   exact⟨k-1,by omega,j+1,by omega,by simpa using hst.trans h1,by simp[hw]⟩
  ·have e0:Aq e=false:=by unfold Aq;rw[Oj hjn (by simpa using h1)];simp
   simp -implicitDefEqProofs [h1,e0]
 have eb:e.path.all FT=true:=by rw[←VX (j:=j) (by omega),hb]
 simp -implicitDefEqProofs [hjn]
 refine Aa (hA _ hl1) ?_
 by_cases g1:AP e.versions=true
 rotate_left
 ·simp -implicitDefEqProofs [g1,Aq]
 by_cases g2:e.tags.length≤5
 rotate_left
 ·have g2':¬(e.tags.length:Int)≤5:=by omega
  simp -implicitDefEqProofs [g1,g2,g2',Aq]
 have g2':(e.tags.length:Int)≤5:=by omega
 by_cases g3:e.path.length≤4
 rotate_left
 ·have g3':¬(e.path.length:Int)≤4:=by omega
  simp -implicitDefEqProofs [g1,g2,g2',g3,g3',Aq]
 have g3':(e.path.length:Int)≤4:=by omega
 simp -implicitDefEqProofs [g1,g2',g3']
 refine Aa (hI _ _ _) ?_
 have ee:Aq e=decide (NA e.cls 0 5):=by unfold Aq;rw[et,er,eb];simp[g1,g2,g3]
 simp -implicitDefEqProofs [ee]
abbrev Lx (R:Rel):Prop:=∀b:Fa,KP b→R [arg (Cm b)] [] (B (!FT b)) []
theorem AdI (D:Dn) (hX:O1 (D Ahn)):Lx (Body D Hw):=by
 intro b hb
 simp -implicitDefEqProofs
 refine Aa (hX b hb) ?_
 simp -implicitDefEqProofs
theorem Afi {α:Type} (p:α→Bool) (xs:List α):(xs.any fun x=> !p x)= !xs.all p:=by rw[List.all_eq_not_any_not];simp
theorem AdZ (D:Dn) (hA:BM (D I9)) (hT:IX (D Tt)) (hH:M9 (D Xq)) (h1:Lx (D Mq)) (hC:GI D (D FX)) (hI:Sk (D C9)):EJ (Body D Jy):=by
 intro e hl
 obtain⟨hl1,hl2,hl3⟩:=hl
 simp -implicitDefEqProofs
 refine Aa (hA _ hl1) ?_
 by_cases g1:AP e.versions=true
 rotate_left
 ·simp -implicitDefEqProofs [g1,Aq]
 by_cases g2:e.tags.length≤5
 rotate_left
 ·have g2':¬(e.tags.length:Int)≤5:=by omega
  simp -implicitDefEqProofs [g1,g2,g2',Aq]
 have g2':(e.tags.length:Int)≤5:=by omega
 simp -implicitDefEqProofs [g1,g2']
 refine Aa (hT _ hl2) ?_
 by_cases g4:Eo e.tags=true
 rotate_left
 ·simp -implicitDefEqProofs [g4,Aq]
 simp -implicitDefEqProofs [g4]
 refine Aa (hH _ hl2) ?_
 by_cases g5:e.tags.any AX=true
 ·have e0:Aq e=false:=by unfold Aq;rw[g5];simp
  generalize e.tags.any AX=q at g5
  subst g5
  simp -implicitDefEqProofs [e0]
 have g5':e.tags.any AX=false:=by simpa using g5
 have ee:Aq e=(decide (e.path.length≤4)&&(e.path.all FT&&decide (NA e.cls 0 5))):=by unfold Aq;rw[g5',g1,g4];simp[g2]
 rw[ee]
 generalize e.tags.any AX=q at g5'
 subst g5'
 by_cases g3:e.path.length≤4
 rotate_left
 ·have g3':¬(e.path.length:Int)≤4:=by omega
  simp -implicitDefEqProofs [g3,g3']
 have g3':(e.path.length:Int)≤4:=by omega
 simp -implicitDefEqProofs [g3,g3']
 refine Aa (hC e.path Mq [] (fun b=> !FT b) hl3.1 N8 (fun j hj=>h1 e.path[j] (hl3.2 j hj))) ?_
 rw[Afi]
 generalize e.path.all FT=q
 by_cases g6:q=true
 rotate_left
 ·simp -implicitDefEqProofs [g6]
 simp -implicitDefEqProofs [g6]
 refine Aa (hI _ _ _) ?_
 simp -implicitDefEqProofs
theorem AvQ {b:Fa} (h:FI b≤4194304):KP b:=by
 unfold FI at h
 exact⟨by unfold Mg maxLen;omega,by unfold Mg maxLen;omega⟩
theorem Atn {p:List Fa} (h:Cg FI p≤4194304):lnS KP p:=
 ⟨by have:=G7 (f:=FI) (xs:=p);unfold maxLen;omega,fun j hj=>AvQ (by have:=size_at (f:=FI) hj;omega)⟩
theorem Ae2 {e:Ak} (h:Ad e≤4194304):Ud e:=by
 unfold Ad at h
 exact⟨by unfold Mg maxLen;omega,by unfold Mg maxLen;omega,Atn (by omega)⟩
theorem Gz {w:World} (h:Ap w≤4194304) {n:Nat} (hn:n<w.ends.length):Ad w.ends[n]≤4194304:=by
 have:=size_at (f:=Ad) hn
 have:=(Fb h).2.2.1
 omega
theorem Ir {e:Ak} (h:Ad e≤4194304):e.versions.length≤4194304:=by unfold Ad at h;omega
theorem ArD (path:List Fa) (vs:List Int):(CG path vs).length≤vs.length:=by
 unfold CG
 split
 ·exact List.length_filter_le _ _
 ·simp
end Go.Eng.T
namespace Go.Eng.T
set_option maxRecDepth 20000
set_option maxHeartbeats 2000000
abbrev IJ (D:Dn) (R:Rel):Prop:=∀(xs:List (List Int)) (g:Nat) (caps:List V) (p:List Int→Bool),xs.length≤maxLen→Mi caps→(∀(j:Nat) (h:j<xs.length),D g (.sl 1 1 xs[j].length (ints xs[j])::caps) [] (B (p xs[j])) [])→R [PO xs,.fn g caps] [] (I (FM p xs 0)) []
theorem YJ (D:Dn):IJ D (Body D DF):=by
 intro xs g caps p hl hc hp
 unfold maxLen at hl
 simp -implicitDefEqProofs
 refine Af (fun k s=>∃j,j+k=xs.length∧FM p xs 0=FM p (xs.drop j) j∧s=⟨[PO xs,.fn g caps,.undef,.undef,I xs.length,I j,.undef,.undef],[]⟩) ?_ (xs.length) _ ⟨0,by simp,by simp,by simp⟩
 intro k s ⟨j,hj,hi,hs⟩
 subst hs
 by_cases hjn:j<xs.length
 ·have hw:IntKind.i64.wrap ((j:Int)+1)=(j+1:Nat):=by rw[Ab (by omega) (by omega)];simp
  rw[N7 hjn]at hi
  simp -implicitDefEqProofs [hjn,hc.1,hc.2.1]
  refine Aa (hp j hjn) ?_
  by_cases he:p xs[j]=true
  ·rw[if_pos he]at hi
   simp -implicitDefEqProofs [he,hi]
  ·rw[if_neg he]at hi
   simp -implicitDefEqProofs [he]
   exact⟨k-1,by omega,j+1,by omega,by simpa using hi,by simp[hw]⟩
 ·rw[QO (by omega)]at hi
  simp -implicitDefEqProofs [hjn,hi]
abbrev F5 (D:Dn) (R:Rel):Prop:=∀(xs:List (List Int)) (g:Nat) (caps:List V) (p:List Int→Bool),xs.length≤maxLen→Mi caps→(∀(j:Nat) (h:j<xs.length),D g (.sl 1 1 xs[j].length (ints xs[j])::caps) [] (B (p xs[j])) [])→R [PO xs,.fn g caps] [] (B (xs.any p)) []
theorem TR (D:Dn) (hI:IJ D (D Jb)):F5 D (Body D Da):=by
 intro xs g caps p hl hc hp
 simp -implicitDefEqProofs [hc.2.2]
 refine Aa (hI xs g caps p hl hc hp) ?_
 have e:decide (0≤FM p xs 0)=xs.any p:=by rw[Bool.eq_iff_iff];simp only[decide_eq_true_eq];rw[RG (by omega)]
 simp -implicitDefEqProofs [e]
def reach (s l:List Int):Bool:= !decide (AB s l=0)
def ES (s:List Int) (ls:List (List Int)):Bool:=AP s&&ls.all (reach s)
abbrev IC (R:Rel):Prop:=∀(s:List Int) (ls:List (List Int)),s.length≤4194304→K4 ls≤4194304→R [.sl 1 1 s.length (ints s),PO ls] [] (B (ES s ls)) []
theorem Ah1 (D:Dn) (hB:Em (D Ol)) (hA:BM (D DL)):IC (Body D LV):=by
 intro sv ls hs hl
 have hll:=UR (xs:=ls)
 simp -implicitDefEqProofs
 refine Af (fun k s=>∃j,j+k=ls.length∧(ls.take j).all (reach sv)=true∧s=⟨[.sl 1 1 sv.length (ints sv),PO ls,.undef,I j,.undef,.undef],[]⟩) ?_ (ls.length) _ ⟨0,by simp,by simp,by simp⟩
 intro k s ⟨j,hj,hp,hs⟩
 subst hs
 by_cases hjn:j<ls.length
 ·have hw:IntKind.i64.wrap ((j:Int)+1)=(j+1:Nat):=by rw[Ab (by omega) (by omega)];simp
  have hst:=Q8 (p:=reach sv) hjn
  rw[hp,Bool.true_and]at hst
  have hra:=ZO hjn
  simp -implicitDefEqProofs [hjn]
  refine Aa (hB sv _ hs (by omega)) ?_
  by_cases h1:AB sv ls[j]=0
  ·have e:ES sv ls=false:=by unfold ES;rw[Oj hjn (by simp[reach,h1])];simp
   simp -implicitDefEqProofs [h1,e,ApE]
  ·simp -implicitDefEqProofs [h1,ApE]
   exact⟨k-1,by omega,j+1,by omega,by simpa using hst.trans (show reach sv ls[j]=true by simp[reach,h1]),by simp[hw]⟩
 ·have e:ES sv ls=AP sv:=by unfold ES;rw[←VX (j:=j) (by omega),hp];simp
  simp -implicitDefEqProofs [hjn]
  refine Aa (hA sv (by unfold maxLen;omega)) ?_
  simp -implicitDefEqProofs [e]
abbrev Pp (R:Rel):Prop:=∀(s l:List Int),s.length≤4194304→l.length≤4194304→R [.sl 1 1 l.length (ints l),.rptr 1 [.sl 0 1 s.length (ints s)] 0] [] (B (!reach s l)) []
theorem AhV (D:Dn) (hB:Em (D JB)):Pp (Body D JU):=by
 intro s l hs hl
 simp -implicitDefEqProofs
 refine Aa (hB s l hs hl) ?_
 simp -implicitDefEqProofs [reach,ApE]
theorem Ahj (D:Dn) (hA:BM (D I9)) (h1':Pp (D Og)) (hC:F5 D (D GV)):IC (Body D Mv):=by
 intro s ls hs hl
 have hll:=UR (xs:=ls)
 simp -implicitDefEqProofs
 refine Aa (hA s (by unfold maxLen;omega)) ?_
 by_cases h1:AP s=true
 rotate_left
 ·simp -implicitDefEqProofs [h1,ES]
 simp -implicitDefEqProofs [h1]
 refine Aa (hC ls Og _ (fun l=> !reach s l) (by unfold maxLen;omega) (AjT N8) (fun j hj=>h1' s ls[j] hs (by have:=ZO hj;omega))) ?_
 rw[Afi]
 generalize hq:ls.all (reach s)=q
 simp -implicitDefEqProofs [ES,h1,hq]
def Je (k:Int):Bool:=decide (NA k 1 2147483646)
abbrev Gx (R:Rel):Prop:=∀k:Int,R [I k] [] (B (Je k)) []
theorem Aip (D:Dn) (hI:Sk (D CQ)):Gx (Body D JM):=by
 intro k
 simp -implicitDefEqProofs
 refine Aa (hI _ _ _) ?_
 simp -implicitDefEqProofs [Je]
theorem AiZ (D:Dn) (hI:Sk (D C9)):Gx (Body D J7):=by
 intro k
 simp -implicitDefEqProofs
 refine Aa (hI _ _ _) ?_
 simp -implicitDefEqProofs [Je]
def FU (w:World):Bool:=ES w.server (Hl w)&&(Eo w.tags&&Je w.key)
def Fq (w:World):Bool:=AQ w.rollout&&(decide (w.rollout.version∈w.server)&&(decide (NA w.least 1 100)&&decide (NA w.percent 0 100)))
def DR (w:World):Bool:=decide (w.stage.length≤60)&&(decide (w.log.length≤60)&&(decide (NA w.now 0 10000)&&(decide (NA w.hurt 0 w.log.length)&&decide (NA w.reached 0 w.rollout.stages.length))))
def AU (w:World):Bool:=FU w&&(decide (w.ends.length≤6)&&(w.ends.all Aq&&(Fq w&&DR w)))
abbrev Jo (R:Rel):Prop:=∀w:World,Ap w≤4194304→R [arg (CO w)] [] (B (AU w)) []
abbrev Rs (R:Rel):Prop:=∀e:Ak,Ad e≤4194304→R [arg (Ac e)] [] (B (!Aq e)) []
theorem AjF (D:Dn) (hE:EJ (D WJ)):Rs (Body D Lc):=by
 intro e h
 simp -implicitDefEqProofs
 refine Aa (hE e (Ae2 h)) ?_
 simp -implicitDefEqProofs
theorem Ajn (D:Dn) (hL:KD (D Ad6)) (hA:IC (D Ab6)) (hT:IX (D Tt)) (hK:Gx (D XB)) (h1':Rs (D PV)) (hC:EZ D (D EO)) (hR:ET (D Hf)) (hH:P5 (D Ci)) (hI:Sk (D C9)):Jo (Body D Nu):=by
 intro w hsz
 have hs:=Fb hsz
 have he:=Es hsz
 simp -implicitDefEqProofs
 refine Aa (hL w hsz) ?_
 simp -implicitDefEqProofs
 refine Aa (hA w.server (Hl w) hs.1 (AgW hsz)) ?_
 by_cases a1:ES w.server (Hl w)=true
 rotate_left
 ·simp -implicitDefEqProofs [a1,AU,FU]
 simp -implicitDefEqProofs [a1]
 refine Aa (hT w.tags (by unfold maxLen;omega)) ?_
 by_cases a2:Eo w.tags=true
 rotate_left
 ·simp -implicitDefEqProofs [a2,AU,FU]
 simp -implicitDefEqProofs [a2]
 refine Aa (hK w.key) ?_
 by_cases a3:Je w.key=true
 rotate_left
 ·simp -implicitDefEqProofs [a3,AU,FU]
 by_cases e1:w.ends.length≤6
 rotate_left
 ·have e1':(6:Int)<w.ends.length:=by omega
  simp -implicitDefEqProofs [a3,e1',e1,AU]
 have e1':¬(6:Int)<w.ends.length:=by omega
 simp -implicitDefEqProofs [a3,e1']
 refine Aa (hC w.ends PV [] (fun e=> !Aq e) (by unfold maxLen;omega) N8 (fun j hj=>h1' w.ends[j] (Gz hsz hj))) ?_
 rw[Afi]
 generalize hq:w.ends.all Aq=q
 by_cases e2:q=true
 rotate_left
 ·have e:AU w=false:=by unfold AU;rw[hq];simp[e2]
  simp -implicitDefEqProofs [e2,e]
 have hq':=hq.trans e2
 simp -implicitDefEqProofs [e2]
 refine Aa (hR w.rollout (OU hsz)) ?_
 by_cases b1:AQ w.rollout=true
 rotate_left
 ·simp -implicitDefEqProofs [b1,AU,Fq]
 simp -implicitDefEqProofs [b1]
 refine Aa (hH w.server _ (by unfold maxLen;omega)) ?_
 by_cases b2:w.rollout.version∈w.server
 rotate_left
 ·simp -implicitDefEqProofs [b2,AU,Fq]
 simp -implicitDefEqProofs [b2]
 refine Aa (hI _ _ _) ?_
 by_cases b3:NA w.least 1 100
 rotate_left
 ·simp -implicitDefEqProofs [b3,AU,Fq]
 simp -implicitDefEqProofs [b3]
 refine Aa (hI _ _ _) ?_
 by_cases b4:NA w.percent 0 100
 rotate_left
 ·simp -implicitDefEqProofs [b4,AU,Fq]
 by_cases c1:w.stage.length≤60
 rotate_left
 ·have c1':¬(w.stage.length:Int)≤60:=by omega
  simp -implicitDefEqProofs [b4,c1',c1,AU,DR]
 have c1':(w.stage.length:Int)≤60:=by omega
 by_cases c2:w.log.length≤60
 rotate_left
 ·have c2':¬(w.log.length:Int)≤60:=by omega
  simp -implicitDefEqProofs [b4,c1',c2',c2,AU,DR]
 have c2':(w.log.length:Int)≤60:=by omega
 simp -implicitDefEqProofs [b4,c1',c2']
 refine Aa (hI _ _ _) ?_
 by_cases c3:NA w.now 0 10000
 rotate_left
 ·simp -implicitDefEqProofs [b4,c1',c2',c3,AU,DR]
 simp -implicitDefEqProofs [b4,c1',c2',c3]
 refine Aa (hI _ _ _) ?_
 by_cases c4:NA w.hurt 0 w.log.length
 rotate_left
 ·simp -implicitDefEqProofs [b4,c1',c2',c3,c4,AU,DR]
 simp -implicitDefEqProofs [b4,c1',c2',c3,c4]
 refine Aa (hI _ _ _) ?_
 have ec:DR w=decide (NA w.reached 0 w.rollout.stages.length):=by unfold DR;simp[c1,c2,c3,c4]
 have ee:AU w=DR w:=by unfold AU FU Fq;rw[hq'];simp[a1,a2,a3,e1,b1,b2,b3,b4]
 simp -implicitDefEqProofs [ee,ec]
theorem Aj4 (D:Dn) (hE:EJ (D JV)) (hV:BM (D DL)) (hT:IX (D AdS)) (hK:Gx (D OG)) (hR:ET (D YO)) (hH:P5 (D Gi)) (hL:KD (D Ad2)) (hA:IC (D Aaz)) (hI:Sk (D CQ)):Jo (Body D Nn):=by
 intro w hsz
 have hs:=Fb hsz
 have he:=Es hsz
 simp -implicitDefEqProofs
 refine Af (fun k s=>∃j,j+k=w.ends.length∧(w.ends.take j).all Aq=true∧s=⟨[.undef,.ptr 0 0,.undef,I j,.undef,.undef,.undef],[.var ((CO w).map (AA 1)),.free]⟩) ?_ (w.ends.length) _ ⟨0,by simp,by simp,by simp⟩
 intro k s ⟨j,hj,hp,hs⟩
 subst hs
 by_cases hjn:j<w.ends.length
 ·have hw:IntKind.i64.wrap ((j:Int)+1)=(j+1:Nat):=by rw[Ab (by omega) (by omega)];simp
  have hst:=Q8 (p:=Aq) hjn
  rw[hp,Bool.true_and]at hst
  simp -implicitDefEqProofs [hjn]
  refine Aa (hE w.ends[j] (Ae2 (Gz hsz hjn))) ?_
  by_cases h1:Aq w.ends[j]=true
  ·simp -implicitDefEqProofs [h1]
   exact⟨k-1,by omega,j+1,by omega,by simpa using hst.trans h1,by simp[hw]⟩
  ·have e:AU w=false:=by unfold AU;rw[Oj hjn (by simpa using h1)];simp
   simp -implicitDefEqProofs [h1,e]
 have hq':w.ends.all Aq=true:=by rw[←VX (j:=j) (by omega),hp]
 simp -implicitDefEqProofs [hjn]
 refine Aa (hV w.server (by unfold maxLen;omega)) ?_
 by_cases v1:AP w.server=true
 rotate_left
 ·simp -implicitDefEqProofs [v1,AU,FU,ES]
 simp -implicitDefEqProofs [v1]
 refine Aa (hT w.tags (by unfold maxLen;omega)) ?_
 by_cases a2:Eo w.tags=true
 rotate_left
 ·simp -implicitDefEqProofs [a2,AU,FU]
 simp -implicitDefEqProofs [a2]
 refine Aa (hK w.key) ?_
 by_cases a3:Je w.key=true
 rotate_left
 ·simp -implicitDefEqProofs [a3,AU,FU]
 by_cases e1:w.ends.length≤6
 rotate_left
 ·have e1':(6:Int)<w.ends.length:=by omega
  simp -implicitDefEqProofs [a3,e1',e1,AU]
 have e1':¬(6:Int)<w.ends.length:=by omega
 simp -implicitDefEqProofs [a3,e1']
 refine Aa (hR w.rollout (OU hsz)) ?_
 by_cases b1:AQ w.rollout=true
 rotate_left
 ·simp -implicitDefEqProofs [b1,AU,Fq]
 simp -implicitDefEqProofs [b1]
 refine Aa (hH w.server _ (by unfold maxLen;omega)) ?_
 by_cases b2:w.rollout.version∈w.server
 rotate_left
 ·simp -implicitDefEqProofs [b2,AU,Fq]
 simp -implicitDefEqProofs [b2]
 refine Aa (hL w hsz) ?_
 simp -implicitDefEqProofs [b2]
 refine Aa (hA w.server (Hl w) hs.1 (AgW hsz)) ?_
 by_cases a1:ES w.server (Hl w)=true
 rotate_left
 ·simp -implicitDefEqProofs [a1,AU,FU]
 simp -implicitDefEqProofs [a1]
 refine Aa (hI _ _ _) ?_
 by_cases b3:NA w.least 1 100
 rotate_left
 ·simp -implicitDefEqProofs [b3,AU,Fq]
 simp -implicitDefEqProofs [b3]
 refine Aa (hI _ _ _) ?_
 by_cases b4:NA w.percent 0 100
 rotate_left
 ·simp -implicitDefEqProofs [b4,AU,Fq]
 by_cases c1:w.stage.length≤60
 rotate_left
 ·have c1':¬(w.stage.length:Int)≤60:=by omega
  simp -implicitDefEqProofs [b4,c1',c1,AU,DR]
 have c1':(w.stage.length:Int)≤60:=by omega
 by_cases c2:w.log.length≤60
 rotate_left
 ·have c2':¬(w.log.length:Int)≤60:=by omega
  simp -implicitDefEqProofs [b4,c1',c2',c2,AU,DR]
 have c2':(w.log.length:Int)≤60:=by omega
 simp -implicitDefEqProofs [b4,c1',c2']
 refine Aa (hI _ _ _) ?_
 by_cases c3:NA w.now 0 10000
 rotate_left
 ·simp -implicitDefEqProofs [b4,c1',c2',c3,AU,DR]
 simp -implicitDefEqProofs [b4,c1',c2',c3]
 refine Aa (hI _ _ _) ?_
 by_cases c4:NA w.hurt 0 w.log.length
 rotate_left
 ·simp -implicitDefEqProofs [b4,c1',c2',c3,c4,AU,DR]
 simp -implicitDefEqProofs [b4,c1',c2',c3,c4]
 refine Aa (hI _ _ _) ?_
 have ec:DR w=decide (NA w.reached 0 w.rollout.stages.length):=by unfold DR;simp[c1,c2,c3,c4]
 have ee:AU w=DR w:=by unfold AU FU Fq;rw[hq'];simp[a1,a2,a3,e1,b1,b2,b3,b4]
 simp -implicitDefEqProofs [ee,ec]
def X6:World:=⟨[],[],0,[],⟨0,[],0,false⟩,0,0,[],[],0,0,0⟩
def Cr (s t:List Int) (es:List Ak) (r:Dz):World:=⟨s,t,77,es,r,4,25,[],[],0,0,0⟩
def Kt (s t:List Int) (es:List Ak) (r:Dz):World×Bool:=if AU (Cr s t es r)=true then(Cr s t es r,true)else(X6,false)
abbrev Rw (R:Rel):Prop:=∀(s t:List Int) (es:List Ak) (r:Dz),Ap (Cr s t es r)≤4194304→R [.sl 1 1 s.length (ints s),.sl 1 1 t.length (ints t),.sl 1 4 es.length (es.flatMap Ac),arg (FC r)] [] (.tup [.agg (CO (Kt s t es r).1),B (Kt s t es r).2]) []
theorem ApT (s t:List Int) (es:List Ak) (r:Dz):Ap (Cr s t es r)=s.length+t.length+Cg Ad es+Bh r:=by
 simp[Ap,Cr,Cg]
theorem Aif (D:Dn) (hC:Jm (D AdX)) (hW:Jo (D SF)):Rw (Body D MF):=by
 intro s t es r hsz
 simp -implicitDefEqProofs
 refine Aa (hC (Cr s t es r) hsz) ?_
 simp -implicitDefEqProofs [Cr]
 refine Aa (hW (Cr s t es r) hsz) ?_
 generalize hq:AU (Cr s t es r)=q
 by_cases h1:q=true
 ·have e:Kt s t es r=(Cr s t es r,true):=by unfold Kt;rw[if_pos (hq.trans h1)]
  simp -implicitDefEqProofs [h1,e,Cr]
 ·have e:Kt s t es r=(X6,false):=by unfold Kt;rw[if_neg (by rw[hq];exact h1)]
  simp -implicitDefEqProofs [h1,e,X6]
end Go.Eng.T
namespace Go.Eng.T
set_option maxRecDepth 20000
set_option maxHeartbeats 1000000
def E8:List Int→Int→Nat
 | [],_=>0
 | x::r,v=>if x<v then E8 r v+1 else 0
theorem Al0:∀(l:List Int) (v:Int),E8 l v≤l.length
 | [],_=>Nat.le_refl 0
 | x::r,v=>by
  have:=Al0 r v
  simp only[E8,List.length_cons]
  split<;>omega
theorem Ad8 {l:List Int} {v:Int} {j:Nat} (h:j<l.length) (hv:l[j]<v):E8 (l.drop j) v=E8 (l.drop (j+1)) v+1:=by
 rw[List.drop_eq_getElem_cons h]
 simp only[E8,if_pos hv]
theorem Xn {l:List Int} {v:Int} {j:Nat} (h:j<l.length) (hv:¬l[j]<v):E8 (l.drop j) v=0:=by
 rw[List.drop_eq_getElem_cons h]
 simp only[E8,if_neg hv]
theorem Ahv {l:List Int} {v:Int} {j:Nat} (h:l.length≤j):E8 (l.drop j) v=0:=by rw[List.drop_eq_nil_of_le h];rfl
def AaV (l:List Int) (i:Nat) (v:Int):List Int:=l.take i++v::l.drop i
theorem ApR {l:List Int} {i:Nat} {v:Int} (h:i≤l.length):(AaV l i v).length=l.length+1:=by simp[AaV];omega
def EW (l:List Int) (v:Int):List Int:=if l[E8 l v]? =some v then l else AaV l (E8 l v) v
theorem Oe (l:List Int) (v:Int):(EW l v).length≤l.length+1:=by
 unfold EW
 split
 ·omega
 ·rw[ApR (Al0 l v)];omega
abbrev Pm (R:Rel):Prop:=∀(l:List Int) (v:Int),l.length≤4194304→R [.sl 1 1 l.length (ints l),I v] [] (.sl 0 1 (EW l v).length (ints (EW l v))) []
abbrev LB (R:Rel):Prop:=∀(l:List Int) (v:Int),l.length≤4194304→R [.arr 0,I v] [.arr 1 0 l.length (ints l)] (.sl 0 1 (EW l v).length (ints (EW l v))) [.dead]
abbrev Alq (R:Rel):Prop:=∀(l:List Int) (i:Nat) (v:Int),l.length≤4194304→i≤l.length→R [.arr 0,I i,.arr 1] [.arr 1 0 l.length (ints l),.arr 1 0 1 (ints [v])] (.sl 0 1 (AaV l i v).length (ints (AaV l i v))) [.dead,.dead]
theorem Auo (D:Dn):Pm (Body D Rn):=by
 intro l v hl
 simp -implicitDefEqProofs
 refine Af (fun k s=>∃j,j+k=l.length∧E8 l v=j+E8 (l.drop j) v∧s=⟨[.sl 1 1 l.length (ints l),I v,.undef,I j,.undef,.undef],[.free,.free,.free,.free,.free,.free,.free]⟩) ?_ (l.length) _ ⟨0,by simp,by simp,by simp⟩
 intro k s ⟨j,hj,hp,hs⟩
 subst hs
 by_cases hjn:j<l.length
 ·have hw:IntKind.i64.wrap ((j:Int)+1)=(j+1:Nat):=by rw[Ab (by omega) (by omega)];simp
  by_cases hv:l[j]<v
  ·have hst:=Ad8 hjn hv
   simp -implicitDefEqProofs [hjn,hv]
   exact⟨k-1,by omega,j+1,by omega,by omega,by simp[hw]⟩
  ·have hst:=Xn hjn hv
   have hpe:E8 l v=j:=by omega
   have b1:l.length*8≤1099511627776:=by omega
   have b2:j*8≤1099511627776:=by omega
   have b3:(j+1)*8≤1099511627776:=by omega
   have b4:(j+1+(l.length-j))*8≤1099511627776:=by omega
   have hjl:j≤l.length:=by omega
   have hjl':(j:Int)≤l.length:=by omega
   have hmin:min j l.length=j:=by omega
   have htk:List.take (l.length-j) (List.drop j l)=List.drop j l:=List.take_of_length_le (by simp)
   by_cases he:l[j]=v
   ·have e:EW l v=l:=by unfold EW;rw[hpe,List.getElem?_eq_getElem hjn,he,if_pos rfl]
    rw[e]
    simp -implicitDefEqProofs [hjn,hv,he,b1]
   ·have e:EW l v=l.take j++v::l.drop j:=by unfold EW AaV;rw[hpe,List.getElem?_eq_getElem hjn,if_neg (by simpa using he)]
    have el:(EW l v).length=j+1+(l.length-j):=by rw[e];simp;omega
    simp -implicitDefEqProofs [hjn,hv,he,hjl,hjl',hmin,b2,b3,b4]
    rw[el,e]
    simp[htk,AaR]
 ·have hst:=Ahv (v:=v) (l:=l) (j:=j) (by omega)
  have hpe:E8 l v=j:=by omega
  have b1:l.length*8≤1099511627776:=by omega
  have b2:j*8≤1099511627776:=by omega
  have b3:(j+1)*8≤1099511627776:=by omega
  have b4:(j+1+(l.length-j))*8≤1099511627776:=by omega
  have hjl:j≤l.length:=by omega
  have hjl':(j:Int)≤l.length:=by omega
  have hmin:min j l.length=j:=by omega
  have htk:List.take (l.length-j) (List.drop j l)=List.drop j l:=List.take_of_length_le (by simp)
  have e:EW l v=l.take j++v::l.drop j:=by unfold EW AaV;rw[hpe,List.getElem?_eq_none (by omega),if_neg (by simp)]
  have el:(EW l v).length=j+1+(l.length-j):=by rw[e];simp;omega
  simp -implicitDefEqProofs [hjn,hjl,hjl',hmin,b2,b3,b4]
  rw[el,e]
  simp[htk,AaR]
theorem AcQ (D:Dn) (hI:Alq (D MO)):LB (Body D Ii):=by
 intro l v hl
 simp -implicitDefEqProofs
 refine Af (fun k s=>∃j,j+k=l.length∧E8 l v=j+E8 (l.drop j) v∧s=⟨[.arr 0,I v,.undef,I j,.undef,.undef],[.arr 1 0 l.length (ints l),.free,.free]⟩) ?_ (l.length) _ ⟨0,by simp,by simp,by simp⟩
 intro k s ⟨j,hj,hp,hs⟩
 subst hs
 by_cases hjn:j<l.length
 ·have hw:IntKind.i64.wrap ((j:Int)+1)=(j+1:Nat):=by rw[Ab (by omega) (by omega)];simp
  by_cases hv:l[j]<v
  ·have hst:=Ad8 hjn hv
   simp -implicitDefEqProofs [hjn,hv]
   exact⟨k-1,by omega,j+1,by omega,by omega,by simp[hw]⟩
  ·have hst:=Xn hjn hv
   have hpe:E8 l v=j:=by omega
   have b1:l.length*8≤1099511627776:=by omega
   have b2:j*8≤1099511627776:=by omega
   have b3:(j+1)*8≤1099511627776:=by omega
   have b4:(j+1+(l.length-j))*8≤1099511627776:=by omega
   have hjl:j≤l.length:=by omega
   have hjl':(j:Int)≤l.length:=by omega
   have hmin:min j l.length=j:=by omega
   have htk:List.take (l.length-j) (List.drop j l)=List.drop j l:=List.take_of_length_le (by simp)
   by_cases he:l[j]=v
   ·have e:EW l v=l:=by unfold EW;rw[hpe,List.getElem?_eq_getElem hjn,he,if_pos rfl]
    rw[e]
    simp -implicitDefEqProofs [hjn,hv,he,b1]
   ·have e:EW l v=AaV l j v:=by unfold EW;rw[hpe,List.getElem?_eq_getElem hjn,if_neg (by simpa using he)]
    rw[e]
    simp -implicitDefEqProofs [hjn,hv,he]
    refine Aa (hI l j v hl hjl) ?_
    simp -implicitDefEqProofs [DV]
 ·have hst:=Ahv (v:=v) (l:=l) (j:=j) (by omega)
  have hpe:E8 l v=j:=by omega
  have b1:l.length*8≤1099511627776:=by omega
  have b2:j*8≤1099511627776:=by omega
  have b3:(j+1)*8≤1099511627776:=by omega
  have b4:(j+1+(l.length-j))*8≤1099511627776:=by omega
  have hjl:j≤l.length:=by omega
  have hjl':(j:Int)≤l.length:=by omega
  have hmin:min j l.length=j:=by omega
  have htk:List.take (l.length-j) (List.drop j l)=List.drop j l:=List.take_of_length_le (by simp)
  have e:EW l v=AaV l j v:=by unfold EW;rw[hpe,List.getElem?_eq_none (by omega),if_neg (by simp)]
  rw[e]
  simp -implicitDefEqProofs [hjn]
  refine Aa (hI l j v hl hjl) ?_
  simp -implicitDefEqProofs [DV]
end Go.Eng.T
namespace Go.Eng.T
theorem Ag5 {α:Type} {f:α→Nat} {g:α→α} (h:∀x,f (g x)≤f x) (xs:List α):Cg f (xs.map g)≤Cg f xs:=by
 induction xs with
 | nil=>simp[Cg]
 | cons x r ih=>
  have:=h x
  simp only[Cg,List.map_cons,List.length_cons,List.sum_cons]at *
  omega
theorem Ag4 (w:World) (x:Ak):Ad (Eb w x)≤Ad x:=by
 unfold Eb
 split
 ·have:=ArW x.versions w.rollout.version
  simp only[Ad]
  omega
 ·exact Nat.le_refl _
theorem AqS (w:World):Ap (leave w)≤Ap w:=by
 have:=Ag5 (f:=Ad) (Ag4 w) w.ends
 have h0:Cg Bo ([]:List Dm)=0:=rfl
 simp only[Ap,leave,h0]
 omega
end Go.Eng.T
namespace Go.Eng.T
set_option maxRecDepth 20000
set_option maxHeartbeats 2000000
def MQ {α:Type} (f:Nat→α→α) (xs:List α) (j:Nat):List α:=xs.mapIdx fun i x=>if i<j then f i x else x
section
variable {α:Type} {f:Nat→α→α} {xs:List α} {j:Nat}
@[simp] theorem X0:(MQ f xs j).length=xs.length:=by simp[MQ]
theorem AkV:MQ f xs 0=xs:=by
 apply List.ext_getElem
 ·simp
 ·intro n h1 h2;simp[MQ]
theorem Aow (h:xs.length≤j):MQ f xs j=xs.mapIdx f:=by
 apply List.ext_getElem
 ·simp
 ·intro n h1 h2
  simp only[X0]at h1
  simp only[MQ,List.getElem_mapIdx]
  rw[if_pos (by omega)]
theorem Aek (h:j<xs.length):(MQ f xs j)[j]'(by rw[X0];exact h)=xs[j]:=by simp[MQ]
theorem Aet (h:j<xs.length):(MQ f xs j).set j (f j xs[j])=MQ f xs (j+1):=by
 apply List.ext_getElem
 ·simp
 ·intro n h1 h2
  simp only[List.length_set,X0]at h1
  rw[List.getElem_set]
  simp only[MQ,List.getElem_mapIdx]
  by_cases hn:j=n
  ·subst hn;simp
  ·rw[if_neg hn]
   by_cases hl:n<j
   ·rw[if_pos hl,if_pos (by omega)]
   ·rw[if_neg hl,if_neg (by omega)]
theorem AjW (h:j<xs.length) (hf:f j xs[j]=xs[j]):MQ f xs (j+1)=MQ f xs j:=by
 rw[←Aet h,hf]
 have:=Aek (f:=f) h
 conv=>lhs;rw[←this]
 simp
end
def DJ (w:World) (i:Nat) (e:Ak):Ak:=if isIn w.rollout i w.ends.length=true then⟨EW e.versions w.rollout.version,e.tags,e.path,e.cls⟩else e
def Jj (w:World):Bool:=AQ w.rollout&& !w.rollout.off
def enter (w:World):World:=if Jj w=true then {w with ends:=w.ends.mapIdx (DJ w),stage:=[],reached:=max w.reached (w.rollout.pos+1)}else w
abbrev M5 (R:Rel):Prop:=∀w:World,Ap w≤4194304→R [arg (CO w)] [] (.agg (CO (enter w))) []
abbrev AlS (R:Rel):Prop:=∀a b:Int,R [I a,I b] [] (I (max a b)) []
abbrev Amg (R:Rel):Prop:=∀a b:Int,R [I a,I b] [] (I (min a b)) []
theorem AvK (D:Dn):AlS (Body D WT):=by
 intro a b
 by_cases h:a<b
 ·have e:max a b=b:=by omega
  simp -implicitDefEqProofs [h,e]
 ·have e:max a b=a:=by omega
  simp -implicitDefEqProofs [h,e]
theorem Av6 (D:Dn):Amg (Body D XE):=by
 intro a b
 by_cases h:a<b
 ·have e:min a b=a:=by omega
  simp -implicitDefEqProofs [h,e]
  intro;omega
 ·have e:min a b=b:=by omega
  simp -implicitDefEqProofs [h,e]
  intro;omega
theorem Adp (D:Dn) (hC:Jm (D PS)) (hR:ET (D Hf)) (hI:AhH (D Aa0)) (hP:LB (D Vg)):M5 (Body D IL):=by
 intro w h
 have hl:=Es h
 have hr:=OU h
 simp -implicitDefEqProofs
 refine Aa (hC w h) ?_
 simp -implicitDefEqProofs
 refine Aa (hR w.rollout hr) ?_
 by_cases h1:AQ w.rollout=true
 rotate_left
 ·have e:enter w=w:=by unfold enter Jj;rw[if_neg (by simp[h1])]
  simp -implicitDefEqProofs [h1,e]
 by_cases h2:w.rollout.off=true
 ·have e:enter w=w:=by unfold enter Jj;rw[if_neg (by simp[h2])]
  simp -implicitDefEqProofs [h1,h2,e]
 have h2':w.rollout.off=false:=by simpa using h2
 have e:enter w={w with ends:=w.ends.mapIdx (DJ w),stage:=[],reached:=max w.reached (w.rollout.pos+1)}:=by unfold enter Jj;rw[if_pos (by simp[h1,h2'])]
 have hp:=AiV h1
 have hwp:IntKind.i64.wrap (w.rollout.pos+1)=w.rollout.pos+1:=Ab (by omega) (by omega)
 simp -implicitDefEqProofs [h1,h2]
 refine Af (fun k s=>∃j v5 o10 o11,j+k=w.ends.length∧s=⟨[.undef,.ptr 0 0,.ptr 1 0,.ptr 8 0,.ptr 9 0,v5,.undef,I w.ends.length,I j,.undef,.undef],[.var ((CO w).map (AA 1)),.var [.nil 1,.nil 1,.sc (.int .i64 0),.nil 4,.sc (.int .i64 0),.nil 1,.sc (.int .i64 0),.sc (.bool false),.sc (.int .i64 0),.sc (.int .i64 0),.nil 5,.nil 8,.sc (.int .i64 0),.sc (.int .i64 0),.sc (.int .i64 0)],.arr 1 0 w.server.length (ints w.server),.arr 1 0 w.tags.length (ints w.tags),.arr 4 0 w.ends.length ((MQ (DJ w) w.ends j).flatMap Ac),.arr 1 0 w.rollout.stages.length (ints w.rollout.stages),.arr 5 0 w.stage.length (w.stage.flatMap Am),.arr 8 0 w.log.length (w.log.flatMap Aj),.var [.arr 2,.arr 3,.sc (.int .i64 w.key),.arr 4,.sc (.int .i64 w.rollout.version),.arr 5,.sc (.int .i64 w.rollout.pos),.sc (.bool w.rollout.off),.sc (.int .i64 w.least),.sc (.int .i64 w.percent),.arr 6,.arr 7,.sc (.int .i64 w.now),.sc (.int .i64 w.hurt),.sc (.int .i64 w.reached)],.var [.sc (.int .i64 w.rollout.version),.sl 1 1 w.rollout.stages.length (ints w.rollout.stages),.sc (.int .i64 w.rollout.pos),.sc (.bool w.rollout.off)],o10,o11]⟩) ?_ (w.ends.length) _ ⟨0,.undef,.free,.free,by simp,by simp[AkV,h2']⟩
 intro k s ⟨j,v5,o10,o11,hj,hs⟩
 subst hs
 by_cases hjn:j<w.ends.length
 ·have hw:IntKind.i64.wrap ((j:Int)+1)=(j+1:Nat):=by rw[Ab (by omega) (by omega)];simp
  have hset:=Aet (f:=DJ w) hjn
  have hg:=Aek (f:=DJ w) hjn
  have hvl:=AhY h hjn
  have hf:j*4<w.ends.length*4:=by omega
  simp -implicitDefEqProofs [hjn]
  refine⟨by cases o11<;>rfl,?_⟩
  refine Aa (hI w.rollout j w.ends.length hr) ?_
  by_cases h3:isIn w.rollout j w.ends.length=true
  ·have e3:DJ w j w.ends[j]=⟨EW w.ends[j].versions w.rollout.version,w.ends[j].tags,w.ends[j].path,w.ends[j].cls⟩:=by unfold DJ;rw[if_pos h3]
   rw[e3]at hset
   simp -implicitDefEqProofs [h3,hjn,hg,hf]
   refine Aa (hP w.ends[j].versions _ hvl) ?_
   simp -implicitDefEqProofs [hjn,hg,hf]
   exact⟨k-1,by omega,j+1,by omega,by simp[hw],by rw[←hset]⟩
  ·have e3:DJ w j w.ends[j]=w.ends[j]:=by unfold DJ;rw[if_neg h3]
   have hsame:=AjW hjn e3
   simp -implicitDefEqProofs [h3]
   exact⟨k-1,by omega,j+1,by omega,by simp[hw],by rw[hsame]⟩
 ·have hx:=Aow (f:=DJ w) (xs:=w.ends) (j:=j) (by omega)
  by_cases hmx:w.reached<w.rollout.pos+1
  ·have em:max w.reached (w.rollout.pos+1)=w.rollout.pos+1:=by omega
   simp -implicitDefEqProofs [hjn,hwp,hx,e,h2',hmx,em]
  ·have em:max w.reached (w.rollout.pos+1)=w.reached:=by omega
   simp -implicitDefEqProofs [hjn,hwp,hx,e,h2',hmx,em]
theorem Ae9 {α:Type} {f:α→Nat} {g:Nat→α→α} (h:∀i x,f (g i x)≤f x+1):∀xs:List α,Cg f (xs.mapIdx g)≤Cg f xs+xs.length:=by
 intro xs
 induction xs generalizing g with
 | nil=>simp[Cg]
 | cons x r ih=>
  have h0:=h 0 x
  have ih':=ih (g:=fun i=>g (i+1)) (fun i x=>h (i+1) x)
  simp only[Cg,List.mapIdx_cons,List.map_cons,List.length_cons,List.sum_cons,List.length_mapIdx]at *
  omega
theorem Ahs (w:World) (i:Nat) (x:Ak):Ad (DJ w i x)≤Ad x+1:=by
 unfold DJ
 split
 ·have:=Oe x.versions w.rollout.version
  simp only[Ad]
  omega
 ·omega
theorem AqJ (w:World):Ap (enter w)≤Ap w+w.ends.length:=by
 have:=Ae9 (f:=Ad) (Ahs w) w.ends
 have h0:Cg Bo ([]:List Dm)=0:=rfl
 unfold enter
 split
 ·simp only[Ap,h0]
  omega
 ·omega
end Go.Eng.T
namespace Go.Eng.T
set_option maxRecDepth 20000
set_option maxHeartbeats 1000000
def XF (p q:Int):Int:=if PY q 1 1000000000000 then(p.tmod q+q).tmod q else 0
abbrev ArH (R:Rel):Prop:=∀p q:Int,R [I p,I q] [] (I (XF p q)) []
theorem AlR (p:Int) {q:Int} (h:1≤q):-q<p.tmod q∧p.tmod q<q:=by
 have h1:=Int.tmod_lt_of_pos p (show 0<q by omega)
 have h2:=Int.lt_tmod_of_pos p (show 0<q by omega)
 omega
theorem Avs (D:Dn) (hI:Sk (D CQ)):ArH (Body D WZ):=by
 intro p q
 simp -implicitDefEqProofs
 refine Aa (hI _ _ _) ?_
 by_cases h:PY q 1 1000000000000
 rotate_left
 ·simp -implicitDefEqProofs [h,XF]
 have h0:¬q=0:=by omega
 have hb:=AlR p (q:=q) (by omega)
 have hw:IntKind.i64.wrap (p.tmod q+q)=p.tmod q+q:=Ab (by omega) (by omega)
 have e:XF p q=(p.tmod q+q).tmod q:=by unfold XF;rw[if_pos h]
 simp -implicitDefEqProofs [h,h0,hw,e]
theorem AfH (p:Int) {q:Int} (h:PY q 1 1000000000000):0≤XF p q∧XF p q<q:=by
 unfold XF
 rw[if_pos h]
 have hb:=AlR p (q:=q) (by omega)
 have h1:=Int.tmod_nonneg q (show 0≤p.tmod q+q by omega)
 have h2:=Int.tmod_lt_of_pos (p.tmod q+q) (show 0<q by omega)
 exact⟨h1,h2⟩
def OY (s v:Int):Int:=(s*1000003+XF v 2147483647+13).tmod 2147483647
def hash (xs:List Int):Int:=xs.foldl OY 11
abbrev AeA (R:Rel):Prop:=∀xs:List Int,xs.length≤maxLen→R [.sl 1 1 xs.length (ints xs)] [] (I (hash xs)) []
theorem Anr {s v:Int} (h:0≤s):0≤OY s v∧OY s v<2147483647:=by
 have hm:=AfH v (q:=2147483647) ⟨by omega,by omega⟩
 unfold OY
 exact⟨Int.tmod_nonneg _ (by omega),Int.tmod_lt_of_pos _ (by omega)⟩
theorem Aog {α:Type} {f:α→Int→α} {xs:List Int} {j:Nat} {a:α} (h:j<xs.length):(xs.take (j+1)).foldl f a=f ((xs.take j).foldl f a) xs[j]:=by
 have e:xs.take (j+1)=xs.take j++ [xs[j]]:=by simp
 rw[e,List.foldl_append];rfl
theorem AlT:∀(xs:List Int) {a:Int},0≤a→a<2147483647→0≤xs.foldl OY a∧xs.foldl OY a<2147483647
 | [],a,h1,h2=>⟨h1,h2⟩
 | x::xs,a,h1,h2=>by
  have:=Anr (s:=a) (v:=x) h1
  exact AlT xs this.1 this.2
theorem Auu (D:Dn) (hM:ArH (D Aex)):AeA (Body D UE):=by
 intro xs hl
 unfold maxLen at hl
 simp -implicitDefEqProofs
 refine Af (fun k s=>∃j,j+k=xs.length∧s=⟨[.sl 1 1 xs.length (ints xs),.undef,I ((xs.take j).foldl OY 11),I j,.undef],[]⟩) ?_ (xs.length) _ ⟨0,by simp,by simp⟩
 intro k s ⟨j,hj,hs⟩
 subst hs
 by_cases hjn:j<xs.length
 ·have hw:IntKind.i64.wrap ((j:Int)+1)=(j+1:Nat):=by rw[Ab (by omega) (by omega)];simp
  have hst:=Aog (f:=OY) (a:=(11:Int)) hjn
  have hb:=AlT (xs.take j) (a:=11) (by omega) (by omega)
  generalize(xs.take j).foldl OY 11=s at hst hb
  have hm:=AfH xs[j] (q:=2147483647) ⟨by omega,by omega⟩
  have w1:IntKind.i64.wrap (s*1000003)=s*1000003:=Ab (by omega) (by omega)
  have w2:IntKind.i64.wrap (s*1000003+XF xs[j] 2147483647)=s*1000003+XF xs[j] 2147483647:=Ab (by omega) (by omega)
  have w3:IntKind.i64.wrap (s*1000003+XF xs[j] 2147483647+13)=s*1000003+XF xs[j] 2147483647+13:=Ab (by omega) (by omega)
  simp -implicitDefEqProofs [hjn,w1]
  refine Aa (hM _ _) ?_
  simp -implicitDefEqProofs [w1,w2,w3]
  exact⟨k-1,by omega,j+1,by omega,by rw[hst];rfl,by simp[hw]⟩
 ·have e:xs.take j=xs:=List.take_of_length_le (by omega)
  simp -implicitDefEqProofs [hjn,e,hash]
def keyed (k:Int) (xs:List Int):Int:=hash (k::xs++ [k])
abbrev Agk (R:Rel):Prop:=∀(k:Int) (xs:List Int),xs.length≤4194304→R [I k,.sl 1 1 xs.length (ints xs)] [] (I (keyed k xs)) []
theorem OE (a:Int) (xs:List Int):V.sc (.int .i64 a)::ints xs=ints (a::xs):=rfl
theorem Arp (D:Dn) (hH:AeA (D Ui)):Agk (Body D KX):=by
 intro k xs hl
 have b1:(1+xs.length)*8≤1099511627776:=by omega
 have b2:(1+xs.length+1)*8≤1099511627776:=by omega
 have hlen:(k::xs++ [k]).length=1+xs.length+1:=by simp;omega
 simp -implicitDefEqProofs [b1,b2]
 have hh:=hH (k::xs++ [k]) (by unfold maxLen;omega)
 rw[hlen]at hh
 simp -implicitDefEqProofs [OE]at hh
 simp -implicitDefEqProofs [OE]
 refine Aa (hh) ?_
 simp -implicitDefEqProofs [keyed]
def pick (seed p n:Int):Int:=if n<1 then 0 else XF (hash [seed,p]) n
abbrev Aia (R:Rel):Prop:=∀seed p n:Int,R [I seed,I p,I n] [] (I (pick seed p n)) []
theorem Atl (D:Dn) (hH:AeA (D Ui)) (hM:ArH (D Aex)):Aia (Body D Pk):=by
 intro seed p n
 by_cases h:n<1
 ·simp -implicitDefEqProofs [h,pick]
 simp -implicitDefEqProofs [h]
 refine Aa (hH [seed,p] (by unfold maxLen;simp)) ?_
 simp -implicitDefEqProofs
 refine Aa (hM _ _) ?_
 simp -implicitDefEqProofs [pick,h]
theorem Wp (seed p:Int) {n:Int} (h:PY n 1 1000000000000):0≤pick seed p n∧pick seed p n<n:=by
 unfold pick
 rw[if_neg (by omega)]
 exact AfH _ h
def NZ (seed:Int):Int:=16*pick seed 0 16+10
abbrev Pb (R:Rel):Prop:=∀seed:Int,R [I seed] [] (I (NZ seed)) []
theorem Afc (D:Dn) (hP:Aia (D Vh)):Pb (Body D Le):=by
 intro seed
 simp -implicitDefEqProofs
 refine Aa (hP _ _ _) ?_
 have hb:=Wp seed 0 (n:=16) ⟨by omega,by omega⟩
 have w1:IntKind.i64.wrap (16*pick seed 0 16)=16*pick seed 0 16:=Ab (by omega) (by omega)
 have w2:IntKind.i64.wrap (16*pick seed 0 16+10)=16*pick seed 0 16+10:=Ab (by omega) (by omega)
 simp -implicitDefEqProofs [w1,w2,NZ]
def Lj (ls:List (List Int)):Bool:=decide (ls.length≤12)&&ls.all fun l=>allIn l 0 255
abbrev Qu (R:Rel):Prop:=∀ls:List (List Int),K4 ls≤4194304→R [PO ls] [] (B (Lj ls)) []
theorem AjA (D:Dn) (hB:Ro (D O3)):Qu (Body D Ia):=by
 intro ls hl
 have hll:=UR (xs:=ls)
 simp -implicitDefEqProofs
 refine Af (fun k s=>∃j,j+k=ls.length∧(ls.take j).all (fun l=>allIn l 0 255)=true∧s=⟨[PO ls,.undef,I j,.undef,.undef],[]⟩) ?_ (ls.length) _ ⟨0,by simp,by simp,by simp⟩
 intro k s ⟨j,hj,hp,hs⟩
 subst hs
 by_cases hjn:j<ls.length
 ·have hw:IntKind.i64.wrap ((j:Int)+1)=(j+1:Nat):=by rw[Ab (by omega) (by omega)];simp
  have hst:=Q8 (p:=fun l=>allIn l 0 255) hjn
  rw[hp,Bool.true_and]at hst
  have hra:=ZO hjn
  simp -implicitDefEqProofs [hjn]
  refine Aa (hB _ (by unfold maxLen;omega)) ?_
  by_cases h1:allIn ls[j] 0 255=true
  ·simp -implicitDefEqProofs [h1]
   exact⟨k-1,by omega,j+1,by omega,by simpa using hst.trans h1,by simp[hw]⟩
  ·have e:Lj ls=false:=by unfold Lj;rw[Oj hjn (by simpa using h1)];simp
   simp -implicitDefEqProofs [h1,e]
 ·have e:Lj ls=decide (ls.length≤12):=by unfold Lj;rw[←VX (j:=j) (by omega),hp];simp
  by_cases h5:ls.length≤12
  ·have h5':(ls.length:Int)≤12:=by omega
   simp -implicitDefEqProofs [hjn,e,h5,h5']
  ·have h5':¬(ls.length:Int)≤12:=by omega
   simp -implicitDefEqProofs [hjn,e,h5,h5']
def VS (x:Int) (b:List Int):Int:=hash (x::(b.length:Int)::b)
def LP (ls:List (List Int)):Int:=if Lj ls=true then ls.foldl VS 1 else 0
abbrev PE (R:Rel):Prop:=∀ls:List (List Int),K4 ls≤4194304→R [PO ls] [] (I (LP ls)) []
theorem Ajq {α β:Type} {f:α→β→α} {xs:List β} {j:Nat} {a:α} (h:j<xs.length):(xs.take (j+1)).foldl f a=f ((xs.take j).foldl f a) xs[j]:=by
 have e:xs.take (j+1)=xs.take j++ [xs[j]]:=by simp
 rw[e,List.foldl_append];rfl
theorem Agu (D:Dn) (hT:Qu (D LW)) (hH:AeA (D Ui)):PE (Body D Gt):=by
 intro ls hl
 have hll:=UR (xs:=ls)
 simp -implicitDefEqProofs
 refine Aa (hT ls hl) ?_
 by_cases h1:Lj ls=true
 rotate_left
 ·simp -implicitDefEqProofs [h1,LP]
 simp -implicitDefEqProofs [h1]
 refine Af (fun k s=>∃j o0 o1,j+k=ls.length∧s=⟨[PO ls,.undef,I ((ls.take j).foldl VS 1),I j,.undef,.undef],[o0,o1]⟩) ?_ (ls.length) _ ⟨0,.free,.free,by simp,by simp⟩
 intro k s ⟨j,o0,o1,hj,hs⟩
 subst hs
 by_cases hjn:j<ls.length
 ·have hw:IntKind.i64.wrap ((j:Int)+1)=(j+1:Nat):=by rw[Ab (by omega) (by omega)];simp
  have hst:=Ajq (f:=VS) (a:=(1:Int)) hjn
  have hra:=ZO hjn
  have b1:(2+ls[j].length)*8≤1099511627776:=by omega
  generalize(ls.take j).foldl VS 1=x at hst
  have hh:=hH (x::(ls[j].length:Int)::ls[j]) (by unfold maxLen;simp;omega)
  have hlen:(x::(ls[j].length:Int)::ls[j]).length=2+ls[j].length:=by simp;omega
  rw[hlen]at hh
  simp only[←OE]at hh
  simp -implicitDefEqProofs [hjn,b1]
  refine Aa (hh) ?_
  simp -implicitDefEqProofs
  exact⟨k-1,by omega,j+1,by omega,by rw[hst];rfl,by simp[hw]⟩
 ·have e:ls.take j=ls:=List.take_of_length_le (by omega)
  have e2:LP ls=ls.foldl VS 1:=by unfold LP;rw[if_pos h1]
  simp -implicitDefEqProofs [hjn,e,e2]
def G9 (k:Int) (ls:List (List Int)) (side:Int):Int:=if Je k&&(Lj ls&&decide (PY side 0 1))then keyed k [side,LP ls]else 0
abbrev ZP (R:Rel):Prop:=∀(k:Int) (ls:List (List Int)) (side:Int),K4 ls≤4194304→R [I k,PO ls,I side] [] (I (G9 k ls side)) []
theorem Aoj (D:Dn) (hV:Gx (D OG)) (hT:Qu (D LW)) (hI:Sk (D CQ)) (hH:PE (D QB)) (hK:Agk (D YN)):ZP (Body D MH):=by
 intro k ls side hl
 simp -implicitDefEqProofs
 refine Aa (hV k) ?_
 by_cases h1:Je k=true
 rotate_left
 ·simp -implicitDefEqProofs [h1,G9]
 simp -implicitDefEqProofs [h1]
 refine Aa (hT ls hl) ?_
 by_cases h2:Lj ls=true
 rotate_left
 ·simp -implicitDefEqProofs [h2,G9]
 simp -implicitDefEqProofs [h2]
 refine Aa (hI _ _ _) ?_
 by_cases h3:PY side 0 1
 rotate_left
 ·simp -implicitDefEqProofs [h3,G9]
 simp -implicitDefEqProofs [h3]
 refine Aa (hH ls hl) ?_
 simp -implicitDefEqProofs
 refine Aa (hK k [side,LP ls] (by simp)) ?_
 simp -implicitDefEqProofs [G9,h1,h2,h3]
end Go.Eng.T
namespace Go.Eng.T
set_option maxRecDepth 20000
set_option maxHeartbeats 1000000
theorem Aea {l:List Ext} (h:Ez l=true):l.length≤6:=by
 unfold Ez at h
 simp only[Bool.and_eq_true,decide_eq_true_eq]at h
 exact h.2
theorem Ath {l:List Ext} (h:Ez l=true) {j:Nat} (hj:j<l.length):UJ l j=true:=by
 unfold Ez at h
 simp only[Bool.and_eq_true]at h
 exact AeZ.1 h.1 j hj
theorem Abo {l:List Ext} (h:Ez l=true) {j:Nat} (hj:j<l.length):l[j].body.length≤4:=by
 have:=Ath h hj
 rw[AeU hj]at this
 unfold Acm at this
 simp only[Bool.and_eq_true,decide_eq_true_eq]at this
 exact this.1.2.1
def Axx (x:Ext):List Int:=x.tag::(x.body.length:Int)::x.body
def PU (l:List Ext) (j:Nat):List Int:=(l.length:Int)::(l.take j).flatMap Axx
theorem Aa1 {l:List Ext} {j:Nat} (h:j<l.length):PU l (j+1)=PU l j++([l[j].tag,(l[j].body.length:Int)]++l[j].body):=by
 have e:l.take (j+1)=l.take j++ [l[j]]:=by simp
 unfold PU
 rw[e,List.flatMap_append]
 simp[Axx]
theorem Xx {l:List Ext} (h:Ez l=true):∀j,j≤l.length→(PU l j).length≤1+6*j
 | 0,_=>by simp[PU]
 | j+1,hj=>by
  have ih:=Xx h j (by omega)
  have hb:=Abo h (j:=j) (by omega)
  rw[Aa1 (by omega)]
  simp only[List.length_append,List.length_cons,List.length_nil]
  omega
def FP (l:List Ext):List Int×Bool:=if Ez l=true then(PU l l.length,true)else([],false)
abbrev KH (R:Rel):Prop:=∀l:List Ext,OI l→R [.sl 1 2 l.length (l.flatMap CW)] [] (.tup [.sl 0 1 (FP l).1.length (ints (FP l).1),B (FP l).2]) []
theorem AcR (D:Dn) (hA:KO (D G6)):KH (Body D JO):=by
 intro l hl
 have hll:=hl.1
 simp -implicitDefEqProofs
 refine Aa (hA l hl) ?_
 by_cases h1:Ez l=true
 rotate_left
 ·have e:FP l=([],false):=by unfold FP;rw[if_neg h1]
  simp -implicitDefEqProofs [h1,e]
 simp -implicitDefEqProofs [h1]
 refine Af (fun k s=>∃j o2 o3 o4,j+k=l.length∧s=⟨[.sl 1 2 l.length (l.flatMap CW),.undef,.undef,.arr 5,I j,.undef,.undef],[.free,.free,o2,o3,o4,.arr 1 0 (PU l j).length (ints (PU l j))]⟩) ?_ (l.length) _ ⟨0,.free,.free,.free,by simp,by simp[PU,ints]⟩
 intro k s ⟨j,o2,o3,o4,hj,hs⟩
 subst hs
 by_cases hjn:j<l.length
 ·have hw:IntKind.i64.wrap ((j:Int)+1)=(j+1:Nat):=by rw[Ab (by omega) (by omega)];simp
  have hst:=Aa1 hjn
  have hle:=Xx h1 j (by omega)
  have h6:=Aea h1
  have hb4:=Abo h1 hjn
  have b1:((PU l j).length+2)*8≤1099511627776:=by omega
  have b2:((PU l j).length+2+l[j].body.length)*8≤1099511627776:=by omega
  simp -implicitDefEqProofs [hjn,b1,b2]
  exact⟨k-1,by omega,j+1,by omega,by simp[hw],by rw[hst];simp;omega,by rw[hst];simp[ints]⟩
 ·obtain rfl:j=l.length:=by omega
  have e:FP l=(PU l l.length,true):=by unfold FP;rw[if_pos h1]
  simp -implicitDefEqProofs [e]
theorem MV (l:List Ext):(FP l).1.length≤37:=by
 unfold FP
 split
 ·rename_i h
  have:=Xx h l.length (Nat.le_refl _)
  have:=Aea h
  dsimp only;omega
 ·simp
def Dp (h:Hello):List Int:=if D9 h=true then((h.versions.length:Int)::h.versions)++(FP h.exts).1 else []
abbrev Nh (R:Rel):Prop:=∀h:Hello,hB h→R [arg (Cz h)] [] (.sl 0 1 (Dp h).length (ints (Dp h))) []
theorem AnH {h:Hello} (hh:D9 h=true):AP h.versions=true:=by unfold D9 at hh;simp only[Bool.and_eq_true]at hh;exact hh.1
theorem AdR (D:Dn) (hI:F9 (D EH)) (hE:KH (D Oq)):Nh (Body D J8):=by
 intro h hh
 have hv:=hh.1
 simp -implicitDefEqProofs
 refine Aa (hI h hh) ?_
 by_cases h1:D9 h=true
 rotate_left
 ·simp -implicitDefEqProofs [h1,Dp]
 have hl:=MV h.exts
 have e:Dp h=((h.versions.length:Int)::h.versions)++(FP h.exts).1:=by unfold Dp;rw[if_pos h1]
 rw[e]
 simp -implicitDefEqProofs [h1]
 refine Aa (hE h.exts hh.2) ?_
 generalize(FP h.exts).1=r at hl
 have b1:(1+h.versions.length)*8≤1099511627776:=by omega
 have b2:(1+h.versions.length+r.length)*8≤1099511627776:=by omega
 have el:h.versions.length+r.length+1=1+h.versions.length+r.length:=by omega
 simp -implicitDefEqProofs [b1,b2,OE,AaR,el]
def Md (a:Nt):Bool:=decide (InV a.version 1 9)&&Ez a.exts
def Cc (a:Nt):List Int:=if Md a=true then a.version::(FP a.exts).1 else []
abbrev Oi (R:Rel):Prop:=∀a:Nt,OI a.exts→R [arg (RV a)] [] (B (Md a)) []
theorem AiO (D:Dn) (hI:Sk (D CQ)) (hE:KO (D G6)):Oi (Body D LZ):=by
 intro a ha
 simp -implicitDefEqProofs
 refine Aa (hI _ _ _) ?_
 by_cases h1:InV a.version 1 9
 rotate_left
 ·simp -implicitDefEqProofs [h1,Md]
 simp -implicitDefEqProofs [h1]
 refine Aa (hE _ ha) ?_
 simp -implicitDefEqProofs [Md,h1]
abbrev LM (R:Rel):Prop:=∀a:Nt,OI a.exts→R [arg (RV a)] [] (.sl 0 1 (Cc a).length (ints (Cc a))) []
theorem Zm (a:Nt):(Cc a).length≤38:=by
 unfold Cc
 have:=MV a.exts
 split
 ·simp only[List.length_cons];omega
 ·simp
theorem AaQ (D:Dn) (hI:Oi (D Qy)) (hE:KH (D Oq)):LM (Body D Jd):=by
 intro a ha
 simp -implicitDefEqProofs
 refine Aa (hI a ha) ?_
 by_cases h1:Md a=true
 rotate_left
 ·have e:Cc a=[]:=by unfold Cc;rw[if_neg h1]
  simp -implicitDefEqProofs [h1,e]
 have hl:=MV a.exts
 have e:Cc a=a.version::(FP a.exts).1:=by unfold Cc;rw[if_pos h1]
 rw[e]
 simp -implicitDefEqProofs [h1]
 refine Aa (hE a.exts ha) ?_
 generalize(FP a.exts).1=r at hl
 have b2:(1+r.length)*8≤1099511627776:=by omega
 have el:r.length+1=1+r.length:=by omega
 simp -implicitDefEqProofs [b2,OE,el]
def AiB (h:Hello) (x:Ext):Bool:=decide (x.tag∈Bl h.exts)&& !AX x.tag
def FD (h:Hello) (a:Nt):Bool:=D9 h&&(Md a&&(decide (a.version∈h.versions)&&a.exts.all (AiB h)))
abbrev O8 (R:Rel):Prop:=∀(h:Hello) (a:Nt),hB h→OI a.exts→R [arg (Cz h),arg (RV a)] [] (B (FD h a)) []
theorem ArI {α:Type} {p:α→Bool} {xs:List α} {i:Int} (h:0≤i):(FM p xs i<0)=¬(xs.any p=true):=by
 have:=RG (p:=p) (xs:=xs) h
 rw[←this]
 exact propext ⟨fun h=>by omega,fun h=>by omega⟩
theorem At9 (l:List Ext) (t:Int):l.any (Ic t)=decide (t∈Bl l):=by
 rw[Bool.eq_iff_iff]
 simp only[List.any_eq_true,decide_eq_true_eq,Bl,List.mem_map,Ic]
theorem LU (l:List Ext) (t:Int):(L6 l t<0)=¬(t∈Bl l):=by
 unfold L6
 rw[ArI (by omega),At9]
 simp
theorem AfA (D:Dn) (hX:Ua (D M4)) (hR:EL (D JZ)) (hI:F9 (D EH)) (hA:Oi (D Qy)) (hH:P5 (D Gi)):O8 (Body D K3):=by
 intro h a hh ha
 have hal:=ha.1
 have hxl:=hh.2.1
 have hvl:=hh.1
 simp -implicitDefEqProofs
 refine Af (fun k s=>∃j,j+k=a.exts.length∧(a.exts.take j).all (AiB h)=true∧s=⟨[.undef,.undef,.ptr 0 0,.ptr 1 0,.undef,I j,.undef,.undef],[.var ((Cz h).map (AA 1)),.var ((RV a).map (AA 1))]⟩) ?_ (a.exts.length) _ ⟨0,by simp,by simp,by simp⟩
 intro k s ⟨j,hj,hp,hs⟩
 subst hs
 by_cases hjn:j<a.exts.length
 ·have hw:IntKind.i64.wrap ((j:Int)+1)=(j+1:Nat):=by rw[Ab (by omega) (by omega)];simp
  have hst:=Q8 (p:=AiB h) hjn
  rw[hp,Bool.true_and]at hst
  simp -implicitDefEqProofs [hjn]
  refine Aa (hX h.exts _ (by unfold maxLen;omega)) ?_
  by_cases h1:a.exts[j].tag∈Bl h.exts
  rotate_left
  ·have e:FD h a=false:=by unfold FD;rw[Oj hjn (by simp[AiB,h1])];simp
   have h1':L6 h.exts a.exts[j].tag<0:=by rw[LU];exact h1
   simp -implicitDefEqProofs [h1',e]
  have h1':¬L6 h.exts a.exts[j].tag<0:=by rw[LU];simpa using h1
  simp -implicitDefEqProofs [h1',hjn]
  refine Aa (hR _) ?_
  by_cases h2:AX a.exts[j].tag=true
  ·have e:FD h a=false:=by unfold FD;rw[Oj hjn (by simp[AiB,h2])];simp
   simp -implicitDefEqProofs [h2,e]
  ·simp -implicitDefEqProofs [h2]
   exact⟨k-1,by omega,j+1,by omega,by simpa using hst.trans (show AiB h a.exts[j]=true by simp[AiB,h1,h2]),by simp[hw]⟩
 ·have e:a.exts.all (AiB h)=true:=by rw[←VX (j:=j) (by omega),hp]
  simp -implicitDefEqProofs [hjn]
  refine Aa (hI h hh) ?_
  by_cases g1:D9 h=true
  rotate_left
  ·simp -implicitDefEqProofs [g1,FD]
  simp -implicitDefEqProofs [g1]
  refine Aa (hA a ha) ?_
  by_cases g2:Md a=true
  rotate_left
  ·simp -implicitDefEqProofs [g2,FD]
  simp -implicitDefEqProofs [g2]
  refine Aa (hH _ _ (by unfold maxLen;omega)) ?_
  have e2:FD h a=decide (a.version∈h.versions):=by unfold FD;rw[e,g1,g2];simp
  simp -implicitDefEqProofs [e2]
def Bv (vs tags:List Int) (h:Hello):Nt×Bool:=if D9 h&& !decide (AB vs h.versions=0)then(⟨AB vs h.versions,XK (Lv h.exts tags)⟩,true)else(⟨0,[]⟩,false)
abbrev Aab (R:Rel):Prop:=∀(vs tags:List Int) (h:Hello),vs.length≤4194304→tags.length≤4194304→hB h→R [.sl 1 1 vs.length (ints vs),.sl 1 1 tags.length (ints tags),arg (Cz h)] [] (.tup [.agg (RV (Bv vs tags h).1),B (Bv vs tags h).2]) []
theorem Aom (D:Dn) (hB':Em (D Ol)) (hI:F9 (D EH)) (hK:Ri (D SB)) (hS:Lp (D V9)):Aab (Body D Ig):=by
 intro vs tags h hv ht hh
 simp -implicitDefEqProofs
 refine Aa (hB' vs h.versions hv hh.1) ?_
 simp -implicitDefEqProofs
 refine Aa (hI h hh) ?_
 by_cases h1:D9 h=true
 rotate_left
 ·simp -implicitDefEqProofs [h1,Bv]
 by_cases h2:AB vs h.versions=0
 ·simp -implicitDefEqProofs [h1,h2,Bv]
 have e:Bv vs tags h=(⟨AB vs h.versions,XK (Lv h.exts tags)⟩,true):=by unfold Bv;rw[if_pos (by simp[h1,h2])]
 simp -implicitDefEqProofs [h1,h2]
 refine Aa (hK h.exts tags hh.2 (by unfold maxLen;omega)) ?_
 simp -implicitDefEqProofs
 refine Aa (hS (Lv h.exts tags) (Qj hh.2 _)) ?_
 simp -implicitDefEqProofs [e]
end Go.Eng.T
namespace Go.Eng.T
open Go.Eng.X
def AL:Nat→Ca
 |0=>R 0 [m f] [] [1]
 |1=>R 1 [m (s 0),C 460 [r (l 0)] []] [(8,1)] []
 |2=>R 2 [m t] [(1,0)] [0]
 |3=>R 3 [m (s 0),C 461 [r (l 0)] [0,1,2,3,4,5],a 6 zW,W 15 (l 2) (l 1)] [(2,2)] [0]
 |4=>R 4 [P 15 (s 2),C 177 [r (l 0)] [7,8,9,10,11,12],a 13 zW,W 15 (l 2) (l 1)] [(3,2)] []
 |5=>R 5 [P 15 (s 2),C 180 [r (l 0)] [14,15,16,17,18,19],a 20 zW,W 15 (l 2) (l 1)] [(4,2)] []
 |6=>T 6 [D (P 15 (s 2)) [6] [],D (C 184 [r (l 0)] []) [0,1,2,3,4,5] [],D (P 15 (s 2)) [6] [],D (C 141 [r (l 2)] []) [0,1,2,3,4,5] [],D (.beq true (l 1) (l 3)) [] [],D (m (l 4)) [] [],H 5 (P 15 (s 2)) [6] [],H 5 (C 184 [r (l 6)] []) [0,1,2,3,4,5] [],H 5 (m (l 7)) [] [],K 8 (P 15 (s 3)) [13] [],K 8 (C 184 [r (l 9)] []) [7,8,9,10,11,12] [],K 8 (n (l 10)) [] [],K 8 (m (l 11)) [] [],H 12 (P 15 (s 4)) [20] [],H 12 (C 184 [r (l 13)] []) [14,15,16,17,18,19] [],H 12 (n (l 14)) [] [],K 8 (k (l 12) t (l 15)) [] [],H 5 (k (l 8) (l 16) f) [] [],D (k (l 5) t (l 17)) [] []] [(9,18)] []
 |7=>R 7 [m f] [(1,0)] [2,3,4]
 |8=>T 8 [D (F (s 2) 4) [] [],D (P 4 (l 0)) [6] [],D (C 176 [r (l 1)] []) [3] [],D (m (l 2)) [] [],K 3 (F (s 2) 4) [] [],K 3 (F (l 4) 3) [] [],K 3 (L (l 5)) [6] [],K 3 (n (l 6)) [] [],D (k (l 3) (l 7) f) [] [],D (m (l 8)) [] [],K 9 (P 15 (s 3)) [13] [],K 9 (C 434 [r (l 10)] []) [7,8,9,10,11,12] [],K 9 (F (s 2) 4) [] [],K 9 (P 4 (l 12)) [6] [],K 9 (F (s 2) 3) [] [],K 9 (L (l 14)) [6] [],K 9 (e (l 15)) [2] [],K 9 (C 263 [r (l 13),r (l 16)] []) [3] [],K 9 (y .neq (l 11) (l 17)) [] [],D (k (l 9) (l 18) f) [] []] [(10,19)] []
 |9=>R 9 [m f] [(1,0)] [2,3,4]
 |10=>R 10 [P 15 (s 4),F (s 2) 4,F (l 1) 0,L (l 2),C 121 [r (l 0),r (l 3)] [21],m (l 4)] [(5,5)] []
 |11=>R 11 [m (i 0)] [(6,0)] []
 |12=>R 12 [m (s 6),m (s 5),e (l 1),y .lss (l 0) (l 2)] [(11,3)] []
 |13=>Y 14 [D (F (s 4) 3) [] [],D (L (l 0)) [20] [],D (m (s 5)) [] [],D (m (s 6)) [] [],D (A 1 (l 2) (l 3)) [21] [],D (L (l 4)) [21] [],D (A 4 (l 1) (l 5)) [16] [],D (F (l 6) 0) [] [],D (L (l 7)) [16] [],D (F (s 2) 4) [] [],D (F (l 9) 0) [] [],D (L (l 10)) [6] [],D (M 22 1 1 [l 11]) [22] [22],D (C 462 [r (l 8),r (l 12)] [23]) [22,23] [23],D (m (l 13)) [] []] [(7,14)] [] [22,23] []
 |14=>R 15 [F (s 2) 0,L (l 0),m (s 7),C 190 [r (l 1),r (l 2)] [],y .gtr (l 3) (i 0)] [(12,4)] [7]
 |15=>R 16 [m f] [(1,0)] [2,3,4,5,6]
 |16=>R 13 [m (s 6),y .add (l 0) (i 1),m (l 1)] [(6,2)] []
 |_=>T 17 [D (m (s 5)) [] [],D (P 15 (s 2)) [6] [],D (F (s 2) 4) [] [],D (F (l 2) 0) [] [],D (L (l 3)) [6] [],D (C 121 [r (l 1),r (l 4)] [24]) [0,1,2,3,4,5,24] [24],D (C 463 [r (l 0),r (l 5)] []) [21,24] [],D (m (l 6)) [] [],K 7 (P 15 (s 3)) [13] [],K 7 (F (s 2) 4) [] [],K 7 (F (l 9) 0) [] [],K 7 (L (l 10)) [6] [],K 7 (C 121 [r (l 8),r (l 11)] [25]) [7,8,9,10,11,12,25] [25],K 7 (e (l 12)) [25] [],K 7 (P 15 (s 2)) [6] [],K 7 (F (s 2) 4) [] [],K 7 (F (l 15) 0) [] [],K 7 (L (l 16)) [6] [],K 7 (C 121 [r (l 14),r (l 17)] [26]) [0,1,2,3,4,5,26] [26],K 7 (e (l 18)) [26] [],K 7 (y .geq (l 13) (l 19)) [] [],D (k (l 7) (l 20) f) [] [],D (m (l 21)) [] []] [(1,22)] [2,3,4,5,6]
def Ma:Ch:=⟨13,27,[0],0,true,[],j (d (AL 0)) (j (j (d (AL 1)) (h 8 (j (d (AL 2)) (.ret)) (.skip))) (j (d (AL 3)) (j (d (AL 4)) (j (d (AL 5)) (j (j (d (AL 6)) (h 9 (j (d (AL 7)) (.ret)) (.skip))) (j (j (d (AL 8)) (h 10 (j (d (AL 9)) (.ret)) (.skip))) (j (d (AL 10)) (j (j (d (AL 11)) (.block 0 (.loop (j (j (d (AL 12)) (h 11 (.skip) (.exit 0))) (j (.block 1 (j (d (AL 13)) (j (d (AL 14)) (h 12 (j (d (AL 15)) (.ret)) (.skip))))) (d (AL 16))))))) (j (d (AL 17)) (.ret)))))))))),[.slot 1]⟩
def WY:List Tmp:=[0,2,3,4,5,6,7,8,10,35,55,64,85]
def Qo:Nat→Ca
 |0=>R 0 [m f] [] [1]
 |_=>R 1 [m (s 0),e (l 0),y .gtr (l 1) (i 1048576),m (l 2)] [(1,3)] [0]
def XP:Ch:=⟨2,0,[0],0,false,[],j (d (Qo 0)) (j (d (Qo 1)) (.ret)),[.slot 1]⟩
def AgY:List Tmp:=[0,2]
def Ey:Nat→Ca
 |0=>R 0 [m (z 1)] [] [2]
 |1=>Q 1 [M 0 1 0 [],m (l 0)] [(3,1)] [] [] [w 0 3]
 |2=>R 2 [m (i 0)] [(4,0)] []
 |3=>R 3 [m (s 4),m (s 0),e (l 1),y .lss (l 0) (l 2)] [(5,3)] []
 |4=>R 5 [m (s 1),m (s 0),m (s 4),A 1 (l 1) (l 2),L (l 3),C 471 [r (l 0),r (l 4)] [],n (l 5)] [(6,6)] []
 |5=>Q 6 [m (s 3),m (s 0),m (s 4),A 1 (l 1) (l 2),L (l 3),M 1 1 1 [l 4],q 2 1 8 (l 0) (l 5),m (l 6)] [(3,7)] [] [1,2] [w 2 3]
 |6=>R 4 [m (s 4),y .add (l 0) (i 1),m (l 1)] [(4,2)] []
 |_=>R 7 [m (s 3),m (l 0)] [(2,1)] [0,1,3,4]
def T9:Ch:=⟨7,4,[0,1],0,false,[],j (d (Ey 0)) (j (d (Ey 1)) (j (j (d (Ey 2)) (.block 0 (.loop (j (j (d (Ey 3)) (h 5 (.skip) (.exit 0))) (j (.block 1 (j (d (Ey 4)) (h 6 (d (Ey 5)) (.skip)))) (d (Ey 6))))))) (j (d (Ey 7)) (.ret)))),[.slot 2]⟩
def Ae4:List Tmp:=[0,1,4,5,6,11,20]
def Eh:Nat→Ca
 |0=>R 0 [m f] [] [2]
 |1=>R 1 [m (i 0)] [(3,0)] []
 |2=>R 2 [m (s 3),m (s 0),e (l 1),y .lss (l 0) (l 2)] [(4,3)] []
 |3=>R 4 [m (s 1),m (s 0),m (s 3),A 1 (l 1) (l 2),L (l 3),C 471 [r (l 0),r (l 4)] [],n (l 5)] [(5,6)] []
 |4=>R 5 [m f] [(2,0)] [0,1,3]
 |5=>R 3 [m (s 3),y .add (l 0) (i 1),m (l 1)] [(3,2)] []
 |_=>R 6 [m t] [(2,0)] [0,1,3]
def O9:Ch:=⟨6,0,[0,1],0,false,[],j (d (Eh 0)) (j (j (d (Eh 1)) (.block 0 (.loop (j (j (d (Eh 2)) (h 4 (.skip) (.exit 0))) (j (.block 1 (j (d (Eh 3)) (h 5 (j (d (Eh 4)) (.ret)) (.skip)))) (d (Eh 5))))))) (j (d (Eh 6)) (.ret))),[.slot 2]⟩
def Abu:List Tmp:=[0,1,4,5,9,18]
def Dr:Nat→Ca
 |0=>R 0 [m f] [] [2]
 |1=>R 1 [m (i 0)] [(3,0)] []
 |2=>R 2 [m (s 3),m (s 0),e (l 1),y .lss (l 0) (l 2)] [(4,3)] []
 |3=>R 4 [m (s 0),m (s 3),A 1 (l 0) (l 1),L (l 2),m (s 1),y .eql (l 3) (l 4)] [(5,5)] []
 |4=>R 5 [m t] [(2,0)] [0,1,3]
 |5=>R 3 [m (s 3),y .add (l 0) (i 1),m (l 1)] [(3,2)] []
 |_=>R 6 [m f] [(2,0)] [0,1,3]
def Mx:Ch:=⟨6,0,[0,1],0,false,[],j (d (Dr 0)) (j (j (d (Dr 1)) (.block 0 (.loop (j (j (d (Dr 2)) (h 4 (.skip) (.exit 0))) (j (.block 1 (j (d (Dr 3)) (h 5 (j (d (Dr 4)) (.ret)) (.skip)))) (d (Dr 5))))))) (j (d (Dr 6)) (.ret))),[.slot 2]⟩
def XC:List Tmp:=[0,1,4,5,9,17]
attribute [simp] AL Ma Qo XP Ey T9 Eh O9 Dr Mx
end Go.Eng.T
namespace Go.Eng.T
open Go.Eng.X
def EK:Nat→Ca
 |0=>R 0 [m u] [] [1]
 |1=>R 1 [m (s 0),e (l 0),y .add (i 193017) (l 1),m (l 2)] [(2,3)] []
 |2=>R 2 [m (i 0)] [(3,0)] []
 |3=>R 3 [m (s 3),m (s 0),e (l 1),y .lss (l 0) (l 2),m (l 3),J 4 (m (s 3)),J 4 (y .lss (l 5) (i 4000)),k (l 4) (l 6) f] [(4,7)] []
 |4=>R 5 [m (s 2),y .mul (l 0) (i 137),m (s 0),m (s 3),A 1 (l 2) (l 3),L (l 4),Lh.conv .i64 (l 5),y .add (l 1) (l 6),y .add (l 7) (i 11),y .and (l 8) (i 1073741823),m (l 9)] [(2,10)] []
 |5=>R 4 [m (s 3),y .add (l 0) (i 1),m (l 1)] [(3,2)] []
 |_=>R 6 [m (s 0),m (s 2),b [N 1,o,o] [(0,1,l 0),(2,1,l 1)],x 0 (l 2),m (l 3)] [(1,4)] [0,2,3]
def KR:Ch:=⟨5,1,[0],0,false,[],j (d (EK 0)) (j (d (EK 1)) (j (j (d (EK 2)) (.block 0 (.loop (j (j (d (EK 3)) (h 4 (.skip) (.exit 0))) (j (.block 1 (d (EK 4))) (d (EK 5))))))) (j (d (EK 6)) (.ret)))),[.slot 1]⟩
def Adu:List Tmp:=[0,2,3,4,15]
def DZ:Nat→Ca
 |0=>R 0 [m (z 1)] [] [1]
 |1=>Q 1 [m (s 0),C 478 [v (l 0),r (i 4)] [],y .add (i 1) (l 1),M 1 1 1 [l 2],m (l 3)] [(2,4)] [] [] [w 1 3]
 |2=>R 2 [m (s 0),C 478 [v (l 0),r (i 4)] [],m (l 1)] [(3,2)] []
 |3=>R 3 [m (s 3),y .gtr (l 0) (i 0)] [(4,1)] []
 |4=>Q 5 [m (s 2),m (s 0),C 478 [v (l 1),r (i 6)] [],y .add (i 1) (l 2),C 159 [r (l 0),r (l 3)] [2],m (l 4)] [(2,5)] [] [2] [w 2 3]
 |5=>R 4 [m (s 3),y .sub (l 0) (i 1),m (l 1)] [(3,2)] []
 |_=>R 6 [m (s 2),m (l 0)] [(1,1)] [0,2,3]
def Kg:Ch:=⟨5,4,[0],1,false,[],j (d (DZ 0)) (j (d (DZ 1)) (j (j (d (DZ 2)) (.block 0 (.loop (j (j (d (DZ 3)) (h 4 (.skip) (.exit 0))) (j (.block 1 (d (DZ 4))) (d (DZ 5))))))) (j (d (DZ 6)) (.ret)))),[.slot 1]⟩
def Ze:List Tmp:=[0,2,3,4,12]
def Ct:Nat→Ca
 |0=>R 0 [m (i 0)] [] [2]
 |1=>R 1 [m (s 1),y .leq (l 0) (i 0)] [(6,1)] []
 |2=>R 2 [m (i 0)] [(2,0)] [0,1]
 |3=>R 3 [m (s 1),y .leq (l 0) (i 256)] [(7,1)] []
 |4=>R 4 [m (s 0),C 486 [v (l 0)] [],m (s 1),y .rem (l 1) (l 2),m (l 3)] [(2,4)] [0,1]
 |5=>R 5 [m (s 0),C 486 [v (l 0)] [],m (l 1)] [(3,2)] []
 |6=>R 6 [m (s 0),C 486 [v (l 0)] [],m (l 1)] [(4,2)] []
 |7=>R 7 [m (s 0),C 486 [v (l 0)] [],m (l 1)] [(5,2)] [0]
 |_=>R 8 [m (s 3),y .mul (l 0) (i 65536),m (s 4),y .mul (l 2) (i 256),y .add (l 1) (l 3),m (s 5),y .add (l 4) (l 5),m (s 1),y .rem (l 6) (l 7),m (l 8)] [(2,9)] [1,3,4,5]
def Kc:Ch:=⟨8,1,[0,1],1,false,[],j (d (Ct 0)) (j (j (d (Ct 1)) (h 6 (j (d (Ct 2)) (.ret)) (.skip))) (j (j (d (Ct 3)) (h 7 (j (d (Ct 4)) (.ret)) (.skip))) (j (d (Ct 5)) (j (d (Ct 6)) (j (d (Ct 7)) (j (d (Ct 8)) (.ret))))))),[.slot 2]⟩
def ZJ:List Tmp:=[0,1,4,5,6,7,9,11]
def D5:Nat→Ca
 |0=>R 0 [a 1 zE] [(1,0)] []
 |1=>Q 1 [m (s 0),C 490 [v (l 0)] [2],m (s 0),C 493 [v (l 2)] [3],m (s 0),C 478 [v (l 4),r (i 6)] [],b zE [(0,1,l 1),(2,1,l 3),(3,1,l 5)],a 4 zE,W 4 (l 7) (l 6)] [(2,7)] [] [] [.ownc 4 1 7]
 |2=>R 2 [m (s 0),C 478 [v (l 0),r (i 4)] [],m (l 1)] [(3,2)] []
 |3=>R 3 [m (s 3),y .gtr (l 0) (i 0)] [(4,1)] []
 |4=>Y 5 [D (F (s 2) 1) [] [],D (L (l 0)) [4] [],D (m (s 0)) [] [],D (M 5 1 5 [i 1,i 2,i 3,i 40,i 200]) [5] [5],D (C 481 [v (l 2),r (l 3)] []) [0,5] [0],D (C 159 [r (l 1),r (l 4)] [6]) [6,7] [6],D (F (s 2) 1) [] [],D (W 1 (l 6) (l 5)) [4] [4]] [] [] [5,6] [w 6 7]
 |5=>R 4 [m (s 3),y .sub (l 0) (i 1),m (l 1)] [(3,2)] []
 |_=>R 6 [P 4 (s 2),W 4 (s 1) (l 0)] [] [0,2,3]
def Ki:Ch:=⟨5,8,[0],1,false,[],j (d (D5 0)) (j (d (D5 1)) (j (j (d (D5 2)) (.block 0 (.loop (j (j (d (D5 3)) (h 4 (.skip) (.exit 0))) (j (.block 1 (d (D5 4))) (d (D5 5))))))) (j (d (D5 6)) (.ret)))),[.cell 1 (some 4)]⟩
def Zb:List Tmp:=[0,2,3,4,15]
def L8:Nat→Ca
 |0=>R 0 [m f] [] [2]
 |_=>R 1 [m (s 0),m (s 1),C 478 [v (l 0),r (l 1)] [],y .eql (l 2) (i 0),m (l 3)] [(2,4)] [0,1]
def LF:Ch:=⟨3,1,[0,1],1,false,[],j (d (L8 0)) (j (d (L8 1)) (.ret)),[.slot 2]⟩
def AbF:List Tmp:=[0,1,4]
def Bp:Nat→Ca
 |0=>R 0 [a 1 zE] [(1,0)] []
 |1=>Q 1 [m (s 0),C 488 [v (l 0)] [2,3,4],a 5 zE,W 4 (l 2) (l 1)] [(2,2)] [] [] [w 2 17,w 3 16,w 4 15]
 |2=>R 2 [m (s 0),C 478 [v (l 0),r (i 10)] []] [(3,1)] []
 |3=>R 3 [y .eql (s 3) (i 0),m (l 0)] [(4,1)] []
 |4=>Q 4 [m (s 0),C 480 [v (l 0)] [6],F (s 2) 0,W 1 (l 2) (l 1)] [] [0,3] [] [w 6 17]
 |5=>R 5 [y .eql (s 3) (i 1),m (l 0)] [(5,1)] []
 |6=>Q 6 [m (s 0),M 7 1 4 [i (-1),i 10,i 255,i 256],C 481 [v (l 0),r (l 1)] [],M 8 1 1 [l 2],F (s 2) 1,W 1 (l 4) (l 3)] [] [0,3] [] [w 8 16]
 |7=>R 7 [y .eql (s 3) (i 2),m (l 0)] [(6,1)] []
 |8=>Q 8 [M 9 1 6 [i 1,i 2,i 3,i 4,i 5,i 6],F (s 2) 1,W 1 (l 1) (l 0)] [] [0,3] [] [w 9 16]
 |9=>R 9 [y .eql (s 3) (i 3),m (l 0)] [(7,1)] []
 |10=>R 10 [m (s 0),M 10 1 3 [i (-1),i 5,i 6],C 481 [v (l 0),r (l 1)] [],F (s 2) 3,W 1 (l 3) (l 2)] [] [0,3]
 |11=>R 11 [y .eql (s 3) (i 4),m (l 0)] [(8,1)] [3]
 |12=>Y 12 [D (F (s 2) 2) [] [],D (L (l 0)) [5] [],D (m (s 0)) [] [],D (C 491 [v (l 2)] [11,12]) [0,11,12] [0,11,12],D (b [o,N 1,N 1,c] []) [] [],D (M 13 4 2 [l 3,l 4]) [11,12,13] [11,12,13],D (p 14 4 64 (l 1) (l 5)) [13,14,15] [13,14,15],D (F (s 2) 2) [] [],D (W 1 (l 7) (l 6)) [5] [5]] [] [0] [] [w 14 15]
 |_=>R 13 [P 4 (s 2),W 4 (s 1) (l 0)] [] [2]
def LJ:Ch:=⟨9,18,[0],1,false,[],j (d (Bp 0)) (j (d (Bp 1)) (j (j (d (Bp 2)) (.block 0 (j (d (Bp 3)) (h 4 (d (Bp 4)) (j (d (Bp 5)) (h 5 (d (Bp 6)) (j (d (Bp 7)) (h 6 (d (Bp 8)) (j (d (Bp 9)) (h 7 (d (Bp 10)) (j (d (Bp 11)) (h 8 (d (Bp 12)) (.skip))))))))))))) (j (d (Bp 13)) (.ret)))),[.cell 1 (some 4)]⟩
def AcH:List Tmp:=[0,2,3,7,8,13,20,24,30]
def Cx:Nat→Ca
 |0=>R 0 [a 1 zR] [(1,0)] []
 |1=>Q 1 [m (s 0),C 478 [v (l 0),r (i 6)] [],y .add (i 1) (l 1),b zR [(0,1,l 2)],a 2 zR,W 4 (l 4) (l 3)] [(2,4)] [] [] [.ownc 2 1 6]
 |2=>R 2 [m (s 0),C 478 [v (l 0),r (i 3)] [],m (l 1)] [(3,2)] []
 |3=>R 3 [m (s 3),y .gtr (l 0) (i 0)] [(4,1)] []
 |4=>Y 5 [D (F (s 2) 1) [] [],D (L (l 0)) [2] [],D (m (s 0)) [] [],D (C 478 [v (l 2),r (i 90)] []) [0] [0],D (y .add (i 1) (l 3)) [] [],D (C 159 [r (l 1),r (l 4)] [3]) [3,6] [3],D (F (s 2) 1) [] [],D (W 1 (l 6) (l 5)) [2] [2]] [] [] [3] [w 3 6]
 |5=>R 4 [m (s 3),y .sub (l 0) (i 1),m (l 1)] [(3,2)] []
 |6=>Q 6 [F (s 2) 1,L (l 0),M 4 1 1 [i 100],q 5 1 8 (l 1) (l 2),F (s 2) 1,W 1 (l 4) (l 3)] [] [3] [] [w 5 6]
 |7=>R 7 [m (s 0),F (s 2) 1,L (l 1),e (l 2),C 478 [v (l 0),r (l 3)] [],F (s 2) 2,W 1 (l 5) (l 4)] [] [0]
 |_=>R 8 [P 4 (s 2),W 4 (s 1) (l 0)] [] [2]
def Km:Ch:=⟨5,7,[0],1,false,[],j (d (Cx 0)) (j (d (Cx 1)) (j (j (d (Cx 2)) (.block 0 (.loop (j (j (d (Cx 3)) (h 4 (.skip) (.exit 0))) (j (.block 1 (d (Cx 4))) (d (Cx 5))))))) (j (d (Cx 6)) (j (d (Cx 7)) (j (d (Cx 8)) (.ret)))))),[.cell 1 (some 4)]⟩
def Za:List Tmp:=[0,2,3,4,12]
def Bt:Nat→Ca
 |0=>R 0 [a 1 zR] [(1,0)] []
 |1=>Q 1 [m (s 0),C 487 [v (l 0)] [2],a 3 zR,W 4 (l 2) (l 1)] [(2,2)] [] [] [w 2 7]
 |2=>R 2 [m (s 0),C 478 [v (l 0),r (i 10)] []] [(3,1)] []
 |3=>R 3 [y .eql (s 3) (i 0),m (l 0)] [(4,1)] []
 |4=>R 4 [m (s 0),M 4 1 3 [i 0,i 9,i 10],C 481 [v (l 0),r (l 1)] [],F (s 2) 0,W 1 (l 3) (l 2)] [] [0,3]
 |5=>R 5 [y .eql (s 3) (i 1),m (l 0)] [(5,1)] []
 |6=>T 6 [D (F (s 2) 1) [] [],D (L (l 0)) [3] [],D (m (s 0)) [] [],D (M 5 1 3 [i 0,i 101,i 100]) [5] [5],D (C 481 [v (l 2),r (l 3)] []) [0,5] [0],D (A 1 (l 1) (i 0)) [7] [],D (W 1 (l 5) (l 4)) [7] [7]] [] [0,3]
 |7=>R 7 [y .eql (s 3) (i 2),m (l 0)] [(6,1)] []
 |8=>R 8 [m (s 0),F (s 2) 1,L (l 1),e (l 2),M 6 1 3 [i (-1),l 3,i 9223372036854775807],C 481 [v (l 0),r (l 4)] [],F (s 2) 2,W 1 (l 6) (l 5)] [] [0,3]
 |9=>R 9 [y .eql (s 3) (i 3),m (l 0)] [(7,1)] [0]
 |10=>R 10 [F (s 2) 3,W 1 (l 0) t] [] [3]
 |11=>R 11 [y .eql (s 3) (i 4),m (l 0)] [(8,1)] [3]
 |12=>Q 12 [F (s 2) 1,W 1 (l 0) (z 1)] [] [] [7] [.ownc 3 1 7]
 |_=>R 13 [P 4 (s 2),W 4 (s 1) (l 0)] [] [2]
def Lu:Ch:=⟨9,8,[0],1,false,[],j (d (Bt 0)) (j (d (Bt 1)) (j (j (d (Bt 2)) (.block 0 (j (d (Bt 3)) (h 4 (d (Bt 4)) (j (d (Bt 5)) (h 5 (d (Bt 6)) (j (d (Bt 7)) (h 6 (d (Bt 8)) (j (d (Bt 9)) (h 7 (d (Bt 10)) (j (d (Bt 11)) (h 8 (d (Bt 12)) (.skip))))))))))))) (j (d (Bt 13)) (.ret)))),[.cell 1 (some 4)]⟩
def Ab4:List Tmp:=[0,2,3,7,8,14,22,31,34]
def D6:Nat→Ca
 |0=>R 0 [m (z 1)] [] [1]
 |1=>Q 1 [M 1 1 0 [],m (l 0)] [(2,1)] [] [] [w 1 4]
 |2=>R 2 [m (s 0),C 478 [v (l 0),r (i 5)] [],m (l 1)] [(3,2)] []
 |3=>R 3 [m (s 3),y .gtr (l 0) (i 0)] [(4,1)] []
 |4=>Q 5 [m (s 2),m (s 0),M 2 1 6 [i 1,i 2,i 3,i 10,i 40,i 200],C 481 [v (l 1),r (l 2)] [],C 159 [r (l 0),r (l 3)] [3],m (l 4)] [(2,5)] [] [2,3] [w 3 4]
 |5=>R 4 [m (s 3),y .sub (l 0) (i 1),m (l 1)] [(3,2)] []
 |_=>R 6 [m (s 2),m (l 0)] [(1,1)] [0,2,3]
def Ke:Ch:=⟨5,5,[0],1,false,[],j (d (D6 0)) (j (d (D6 1)) (j (j (d (D6 2)) (.block 0 (.loop (j (j (d (D6 3)) (h 4 (.skip) (.exit 0))) (j (.block 1 (d (D6 4))) (d (D6 5))))))) (j (d (D6 6)) (.ret)))),[.slot 1]⟩
def Zr:List Tmp:=[0,2,3,4,9]
def Au:Nat→Ca
 |0=>R 0 [a 1 zW] [(1,0)] []
 |1=>Q 1 [m (s 0),C 479 [v (l 0)] [2,3,4,5,6,7],a 8 zW,W 15 (l 2) (l 1)] [(2,2)] [] [] [w 2 27,w 3 26,w 7 24,w 5 25]
 |2=>R 2 [m (s 0),C 478 [v (l 0),r (i 14)] []] [(3,1)] []
 |3=>R 3 [y .eql (s 3) (i 0),m (l 0)] [(4,1)] []
 |4=>Q 4 [m (s 0),C 480 [v (l 0)] [9],F (s 2) 0,W 1 (l 2) (l 1)] [] [0,3] [] [w 9 27]
 |5=>R 5 [y .eql (s 3) (i 1),m (l 0)] [(5,1)] []
 |6=>Q 6 [m (s 0),M 10 1 3 [i (-1),i 255,i 256],C 481 [v (l 0),r (l 1)] [],M 11 1 1 [l 2],F (s 2) 1,W 1 (l 4) (l 3)] [] [0,3] [] [w 11 26]
 |7=>R 7 [y .eql (s 3) (i 2),m (l 0)] [(6,1)] []
 |8=>R 8 [m (s 0),M 12 1 2 [i 0,i 5],C 481 [v (l 0),r (l 1)] [],F (s 2) 2,W 1 (l 3) (l 2)] [] [0,3]
 |9=>R 9 [y .eql (s 3) (i 3),m (l 0)] [(7,1)] []
 |10=>T 10 [D (F (s 2) 3) [] [],D (L (l 0)) [8] [],D (m (s 0)) [] [],D (C 482 [v (l 2)] [13,14,15]) [0,13,14,15] [0,13,14,15],D (A 4 (l 1) (i 0)) [4] [],D (W 4 (l 4) (l 3)) [4,13,14,15] [4,13,14,15]] [] [0,3]
 |11=>R 11 [y .eql (s 3) (i 4),m (l 0)] [(8,1)] []
 |12=>Q 12 [m (s 0),C 483 [v (l 0)] [16],F (s 2) 4,W 4 (l 2) (l 1)] [] [0,3] [] [w 16 25]
 |13=>R 13 [y .eql (s 3) (i 5),m (l 0)] [(9,1)] []
 |14=>R 14 [m (s 0),M 17 1 3 [i 0,i 100,i 101],C 481 [v (l 0),r (l 1)] [],F (s 2) 8,W 1 (l 3) (l 2)] [] [0,3]
 |15=>R 15 [y .eql (s 3) (i 6),m (l 0)] [(10,1)] []
 |16=>R 16 [m (s 0),M 18 1 3 [i (-1),i 100,i 101],C 481 [v (l 0),r (l 1)] [],F (s 2) 9,W 1 (l 3) (l 2)] [] [0,3]
 |17=>R 17 [y .eql (s 3) (i 7),m (l 0)] [(11,1)] []
 |18=>R 18 [m (s 0),M 19 1 3 [i (-1),i 10000,i 10001],C 481 [v (l 0),r (l 1)] [],F (s 2) 12,W 1 (l 3) (l 2)] [] [0,3]
 |19=>R 19 [y .eql (s 3) (i 8),m (l 0)] [(12,1)] []
 |20=>R 20 [m (s 0),M 20 1 3 [i (-1),i 0,i 1],C 481 [v (l 0),r (l 1)] [],F (s 2) 13,W 1 (l 3) (l 2)] [] [0,3]
 |21=>R 21 [y .eql (s 3) (i 9),m (l 0)] [(13,1)] [0,3]
 |22=>Y 22 [D (F (s 2) 3) [] [],D (L (l 0)) [8] [],D (A 4 (l 1) (i 0)) [4] [],D (P 4 (l 2)) [4] [],D (F (s 2) 0) [] [],D (L (l 4)) [8] [],D (F (s 2) 1) [] [],D (L (l 6)) [8] [],D (C 213 [r (l 3),r (l 5),r (l 7),r (i 77),r (i 1)] [21,22]) [21,22,26,27] [21,22],D (b zL [(0,1,i 0),(1,1,i 1),(3,5,l 8)]) [] [],D (M 23 8 1 [l 9]) [21,22,23] [21,22,23],D (F (s 2) 11) [] [],D (W 1 (l 11) (l 10)) [8] [8]] [] [] [] [w 23 24]
 |_=>R 23 [P 15 (s 2),W 15 (s 1) (l 0)] [] [2]
def LK:Ch:=⟨14,28,[0],1,true,[],j (d (Au 0)) (j (d (Au 1)) (j (j (d (Au 2)) (.block 0 (j (d (Au 3)) (h 4 (d (Au 4)) (j (d (Au 5)) (h 5 (d (Au 6)) (j (d (Au 7)) (h 6 (d (Au 8)) (j (d (Au 9)) (h 7 (d (Au 10)) (j (d (Au 11)) (h 8 (d (Au 12)) (j (d (Au 13)) (h 9 (d (Au 14)) (j (d (Au 15)) (h 10 (d (Au 16)) (j (d (Au 17)) (h 11 (d (Au 18)) (j (d (Au 19)) (h 12 (d (Au 20)) (j (d (Au 21)) (h 13 (d (Au 22)) (.skip))))))))))))))))))))))) (j (d (Au 23)) (.ret)))),[.cell 1 (some 15)]⟩
def Aa4:List Tmp:=[0,2,3,7,8,13,20,26,33,38,44,50,56,62]
def El:Nat→Ca
 |0=>R 0 [m (i 0)] [] [1]
 |1=>R 1 [m (s 0),m (s 0),F (l 1) 0,F (l 2) 2,L (l 3),y .mul (l 4) (i 6364136223846793005),y .add (l 5) (i 1442695040888963407),F (l 0) 0,F (l 7) 2,W 1 (l 8) (l 6)] [] []
 |2=>T 2 [D (m (s 0)) [] [],D (F (l 0) 0) [] [],D (F (l 1) 2) [] [],D (L (l 2)) [0] [],D (y .shr (l 3) (.con (.sc (.int .u64 33)))) [] [],D (m (s 0)) [] [],D (F (l 5) 0) [] [],D (F (l 6) 2) [] [],D (L (l 7)) [0] [],D (y .shr (l 8) (.con (.sc (.int .u64 47)))) [] [],D (y .xor (l 4) (l 9)) [] [],D (y .and (l 10) (i 255)) [] [],D (m (l 11)) [] []] [(2,12)] []
 |3=>T 3 [D (m (s 0)) [] [],D (F (l 0) 0) [] [],D (F (l 1) 1) [] [],D (L (l 2)) [0] [],D (m (s 0)) [] [],D (F (l 4) 0) [] [],D (F (l 5) 0) [] [],D (L (l 6)) [0] [],D (e (l 7)) [] [],D (y .lss (l 3) (l 8)) [] []] [(3,9)] []
 |4=>T 4 [D (m (s 2)) [] [],D (m (s 0)) [] [],D (F (l 1) 0) [] [],D (F (l 2) 0) [] [],D (L (l 3)) [0] [],D (m (s 0)) [] [],D (F (l 5) 0) [] [],D (F (l 6) 1) [] [],D (L (l 7)) [0] [],D (A 1 (l 4) (l 8)) [] [],D (L (l 9)) [] [],D (.conv .i64 (l 10)) [] [],D (y .add (l 0) (l 11)) [] [],D (y .and (l 12) (i 255)) [] [],D (m (l 13)) [] []] [(2,14)] []
 |5=>R 5 [m (s 0),m (s 0),F (l 1) 0,F (l 2) 1,L (l 3),y .add (l 4) (i 1),F (l 0) 0,F (l 6) 1,W 1 (l 7) (l 5)] [] [0]
 |_=>R 6 [m (s 2),m (l 0)] [(1,1)] [2]
def Lm:Ch:=⟨4,1,[0],1,false,[],j (d (El 0)) (j (d (El 1)) (j (d (El 2)) (j (j (d (El 3)) (h 3 (j (d (El 4)) (d (El 5))) (.skip))) (j (d (El 6)) (.ret))))),[.slot 1]⟩
def Acj:List Tmp:=[0,2,3,34]
def DW:Nat→Ca
 |0=>R 0 [m (z 4)] [] [1]
 |1=>Q 1 [M 1 4 0 [],m (l 0)] [(2,1)] [] [] [w 1 6]
 |2=>R 2 [m (s 0),C 478 [v (l 0),r (i 4)] [],m (l 1)] [(3,2)] []
 |3=>R 3 [m (s 3),y .gtr (l 0) (i 0)] [(4,1)] []
 |4=>Q 5 [m (s 2),m (s 0),C 494 [v (l 1)] [2,3],M 4 4 1 [l 2],p 5 4 64 (l 0) (l 3),m (l 4)] [(2,5)] [] [2,3,4,5] [w 5 6]
 |5=>R 4 [m (s 3),y .sub (l 0) (i 1),m (l 1)] [(3,2)] []
 |_=>R 6 [m (s 2),m (l 0)] [(1,1)] [0,2,3]
def Kn:Ch:=⟨5,7,[0],1,false,[],j (d (DW 0)) (j (d (DW 1)) (j (j (d (DW 2)) (.block 0 (.loop (j (j (d (DW 3)) (h 4 (.skip) (.exit 0))) (j (.block 1 (d (DW 4))) (d (DW 5))))))) (j (d (DW 6)) (.ret)))),[.slot 1]⟩
def YA:List Tmp:=[0,2,3,4,9]
def Ny:Nat→Ca
 |0=>R 0 [m (i 0)] [] [2]
 |_=>R 1 [m (s 1),m (s 0),m (s 1),e (l 2),C 478 [v (l 1),r (l 3)] [],A 1 (l 0) (l 4),L (l 5),m (l 6)] [(2,7)] [0,1]
def Ng:Ch:=⟨3,1,[0,1],1,false,[],j (d (Ny 0)) (j (d (Ny 1)) (.ret)),[.slot 2]⟩
def AdD:List Tmp:=[0,1,4]
def Cs:Nat→Ca
 |0=>R 0 [m (z 1)] [] [1]
 |1=>Q 1 [m (s 0),C 490 [v (l 0)] [1],m (l 1)] [(2,2)] [] [] [w 1 6]
 |2=>R 2 [m (s 0),C 478 [v (l 0),r (i 9)] []] [(3,1)] []
 |3=>R 3 [y .eql (s 3) (i 0),m (l 0)] [(4,1)] []
 |4=>R 4 [m (s 2),m (s 0),M 2 1 4 [i 0,i (-1),i 9,i 10],C 481 [v (l 1),r (l 2)] [],A 1 (l 0) (i 0),W 1 (l 4) (l 3)] [] [0,3]
 |5=>R 5 [y .eql (s 3) (i 1),m (l 0)] [(5,1)] [0]
 |6=>Q 6 [m (s 2),m (s 2),A 1 (l 1) (i 0),L (l 2),M 3 1 1 [l 3],q 4 1 8 (l 0) (l 4),m (l 5)] [(2,6)] [3] [] [w 4 6]
 |7=>R 7 [y .eql (s 3) (i 2),m (l 0)] [(6,1)] [3]
 |8=>Q 8 [M 5 1 0 [],m (l 0)] [(2,1)] [] [] [w 5 6]
 |_=>R 9 [m (s 2),m (l 0)] [(1,1)] [2]
def LA:Ch:=⟨7,7,[0],1,false,[],j (d (Cs 0)) (j (d (Cs 1)) (j (j (d (Cs 2)) (.block 0 (j (d (Cs 3)) (h 4 (d (Cs 4)) (j (d (Cs 5)) (h 5 (d (Cs 6)) (j (d (Cs 7)) (h 6 (d (Cs 8)) (.skip))))))))) (j (d (Cs 9)) (.ret)))),[.slot 1]⟩
def Abk:List Tmp:=[0,2,3,7,8,15,23]
def Co:Nat→Ca
 |0=>R 0 [a 1 [o,N 1,N 1,c]] [(1,0)] []
 |1=>Q 1 [m (s 0),C 494 [v (l 0)] [2,3],a 4 [o,N 1,N 1,c],W 4 (l 2) (l 1)] [(2,2)] [] [] [w 2 10,w 3 9]
 |2=>R 2 [m (s 0),C 478 [v (l 0),r (i 12)] []] [(3,1)] []
 |3=>R 3 [y .eql (s 3) (i 0),m (l 0)] [(4,1)] []
 |4=>R 4 [m (s 0),M 5 1 3 [i (-1),i 9,i 10],C 481 [v (l 0),r (l 1)] [],F (s 2) 0,W 1 (l 3) (l 2)] [] [0,3]
 |5=>R 5 [y .eql (s 3) (i 1),m (l 0)] [(5,1)] []
 |6=>Q 6 [m (s 0),M 6 1 3 [i (-1),i 255,i 256],C 481 [v (l 0),r (l 1)] [],M 7 1 1 [l 2],F (s 2) 1,W 1 (l 4) (l 3)] [] [0,3] [] [w 7 10]
 |7=>R 7 [y .eql (s 3) (i 2),m (l 0)] [(6,1)] [0,3]
 |8=>Q 8 [M 8 1 7 [i 1,i 2,i 3,i 4,i 5,i 6,i 7],F (s 2) 2,W 1 (l 1) (l 0)] [] [] [] [w 8 9]
 |_=>R 9 [P 4 (s 2),W 4 (s 1) (l 0)] [] [2]
def LG:Ch:=⟨7,11,[0],1,false,[],j (d (Co 0)) (j (d (Co 1)) (j (j (d (Co 2)) (.block 0 (j (d (Co 3)) (h 4 (d (Co 4)) (j (d (Co 5)) (h 5 (d (Co 6)) (j (d (Co 7)) (h 6 (d (Co 8)) (.skip))))))))) (j (d (Co 9)) (.ret)))),[.cell 1 (some 4)]⟩
def Acf:List Tmp:=[0,2,3,7,8,14,21]
def A8:Nat→Ca
 |0=>R 0 [a 1 zW] [(1,0)] []
 |1=>R 1 [M 2 1 1 [i 1],m (s 0),C 478 [v (l 1),r (i 2)] [],y .add (i 2) (l 2),C 159 [r (l 0),r (l 3)] [3],m (s 0),C 478 [v (l 5),r (i 2)] [],y .add (i 4) (l 6),C 159 [r (l 4),r (l 7)] [4],m (l 8)] [(2,9)] []
 |2=>R 2 [m (s 0),C 487 [v (l 0)] [5],a 6 zR,W 4 (l 2) (l 1)] [(3,2)] []
 |3=>R 3 [m (s 2),m (s 2),e (l 1),y .sub (l 2) (i 1),A 1 (l 0) (l 3),L (l 4),F (s 3) 0,W 1 (l 6) (l 5)] [] []
 |4=>R 4 [F (s 3) 2,W 1 (l 0) (i 0)] [] []
 |5=>Q 5 [M 7 4 0 [],m (l 0)] [(4,1)] [] [] [w 7 24]
 |6=>R 6 [m (s 0),C 478 [v (l 0),r (i 4)] [],y .add (i 2) (l 1),m (l 2)] [(5,3)] []
 |7=>R 7 [m (s 5),y .gtr (l 0) (i 0)] [(8,1)] []
 |8=>Q 9 [m (s 0),C 488 [v (l 0)] [8,9,10],a 11 zE,W 4 (l 2) (l 1)] [(6,2)] [] [8,9,10,11] []
 |9=>Q 10 [M 12 1 1 [i 1],m (s 0),C 478 [v (l 1),r (i 2)] [],y .add (i 2) (l 2),C 159 [r (l 0),r (l 3)] [13],F (s 6) 0,W 1 (l 5) (l 4)] [] [] [12,13] []
 |10=>Q 11 [m (s 4),P 4 (s 6),M 14 4 1 [l 1],p 15 4 80 (l 0) (l 2),m (l 3)] [(4,4)] [6] [14,15] [w 15 24]
 |11=>R 8 [m (s 5),y .sub (l 0) (i 1),m (l 1)] [(5,2)] []
 |12=>T 12 [D (m (s 2)) [] [],D (m (s 0)) [] [],D (C 489 [v (l 1)] [16]) [0,16] [0,16],D (m (s 4)) [] [],D (P 4 (s 3)) [6] [],D (C 70 [r (l 0),r (l 2),r (l 3),r (l 4)] [17,18,19,20,21,22]) [4,5,16,17,18,19,20,21,22,24] [17,18,19,20,21,22],D (m (l 5)) [] [],D (X (l 6) 0) [] [],D (X (l 6) 1) [] [],D (a 23 zW) [23] [23],D (W 15 (l 9) (l 7)) [23] [23],D (m (l 8)) [] []] [(7,9)] [0,2,3,4,5]
 |_=>R 13 [P 15 (s 7),W 15 (s 1) (l 0)] [] [7]
def Ju:Ch:=⟨9,25,[0],1,false,[],j (d (A8 0)) (j (d (A8 1)) (j (d (A8 2)) (j (d (A8 3)) (j (d (A8 4)) (j (d (A8 5)) (j (j (d (A8 6)) (.block 0 (.loop (j (j (d (A8 7)) (h 8 (.skip) (.exit 0))) (j (.block 1 (j (d (A8 8)) (j (d (A8 9)) (d (A8 10))))) (d (A8 11))))))) (j (d (A8 12)) (j (d (A8 13)) (.ret))))))))),[.cell 1 (some 15)]⟩
def WG:List Tmp:=[0,2,3,4,5,6,7,8,34]
def BB:Nat→Ca
 |0=>R 0 [a 1 [o,N 1,N 1,c]] [(1,0)] []
 |1=>Q 1 [b [o,N 1,N 1,c] [],a 2 [o,N 1,N 1,c],W 4 (l 1) (l 0)] [(2,1)] [] [] [.ownc 2 1 6,.ownc 2 2 5]
 |2=>R 2 [m (s 0),C 478 [v (l 0),r (i 7)] []] [(3,1)] []
 |3=>R 3 [y .eql (s 3) (i 0),m (l 0)] [(4,1)] []
 |4=>R 4 [m (s 0),C 478 [v (l 0),r (i 6)] [],y .add (i 1) (l 1),F (s 2) 0,W 1 (l 3) (l 2)] [] [0,3]
 |5=>R 5 [y .eql (s 3) (i 1),m (l 0)] [(5,1)] []
 |6=>Q 6 [m (s 0),C 489 [v (l 0)] [3],F (s 2) 1,W 1 (l 2) (l 1)] [] [0,3] [] [w 3 6]
 |7=>R 7 [y .eql (s 3) (i 2),m (l 0)] [(6,1)] []
 |8=>Q 8 [m (s 0),C 489 [v (l 0)] [4],F (s 2) 2,W 1 (l 2) (l 1)] [] [0,3] [] [w 4 5]
 |9=>R 9 [y .eql (s 3) (i 3),m (l 0)] [(7,1)] [0,3]
 |10=>R 10 [F (s 2) 3,W 1 (l 0) t] [] []
 |_=>R 11 [P 4 (s 2),W 4 (s 1) (l 0)] [] [2]
def Kl:Ch:=⟨8,7,[0],1,false,[],j (d (BB 0)) (j (d (BB 1)) (j (j (d (BB 2)) (.block 0 (j (d (BB 3)) (h 4 (d (BB 4)) (j (d (BB 5)) (h 5 (d (BB 6)) (j (d (BB 7)) (h 6 (d (BB 8)) (j (d (BB 9)) (h 7 (d (BB 10)) (.skip))))))))))) (j (d (BB 11)) (.ret)))),[.cell 1 (some 4)]⟩
def Y9:List Tmp:=[0,2,3,6,7,13,18,23]
def CK:Nat→Ca
 |0=>R 0 [a 0 zW] [(1,0)] []
 |1=>R 1 [m (s 0),C 473 [r (l 0)] [1],m (l 1)] [(2,2)] [0]
 |2=>R 2 [m (s 2),C 474 [v (l 0),r (i 4)] []] [(3,1)] []
 |3=>R 3 [m (s 2),C 475 [v (l 0)] [2,3,4,5,6,7],W 15 (s 1) (l 1)] [] [2]
 |_=>R 4 [m (s 2),C 476 [v (l 0)] [8,9,10,11,12,13],W 15 (s 1) (l 1)] [] [2]
def Fh:Ch:=⟨4,14,[0],0,false,[],j (d (CK 0)) (j (d (CK 1)) (j (j (d (CK 2)) (h 3 (j (d (CK 3)) (.ret)) (.skip))) (j (d (CK 4)) (.ret)))),[.cell 1 (some 15)]⟩
def OX:List Tmp:=[0,2,3,7]
def AZ:Nat→Ca
 |0=>R 0 [a 1 zW] [(1,0)] []
 |1=>Q 1 [m (s 0),C 479 [v (l 0)] [2,3,4,5,6,7],a 8 zW,W 15 (l 2) (l 1)] [(2,2)] [] [] [w 6 14]
 |2=>R 2 [m (s 0),C 478 [v (l 0),r (i 9)] [],F (s 2) 12,W 1 (l 2) (l 1)] [] []
 |3=>R 3 [m (i 0)] [(3,0)] []
 |4=>R 4 [m (s 3),F (s 2) 3,L (l 1),e (l 2),y .lss (l 0) (l 3)] [(5,4)] []
 |5=>R 6 [m (s 0),C 474 [v (l 0),r (i 2)] []] [(6,1)] []
 |6=>Y 7 [D (F (s 2) 3) [] [],D (L (l 0)) [8] [],D (m (s 3)) [] [],D (F (s 2) 3) [] [],D (L (l 3)) [8] [],D (m (s 3)) [] [],D (A 4 (l 4) (l 5)) [4] [],D (F (l 6) 0) [] [],D (L (l 7)) [4] [],D (F (s 2) 4) [] [],D (F (l 9) 0) [] [],D (L (l 10)) [8] [],D (C 159 [r (l 8),r (l 11)] [9]) [9] [9],D (A 4 (l 1) (l 2)) [4] [],D (F (l 13) 0) [] [],D (W 1 (l 14) (l 12)) [4,9] [4,9]] [] [] [9] []
 |7=>R 5 [m (s 3),y .add (l 0) (i 1),m (l 1)] [(3,2)] []
 |8=>R 8 [m (s 0),F (s 2) 4,F (l 1) 1,L (l 2),e (l 3),C 478 [v (l 0),r (l 4)] [],F (s 2) 4,F (l 6) 2,W 1 (l 7) (l 5)] [] [3]
 |9=>R 9 [F (s 2) 4,F (l 0) 2,L (l 1),y .add (l 2) (i 1),F (s 2) 14,W 1 (l 4) (l 3)] [] []
 |10=>R 10 [m (s 0),C 478 [v (l 0),r (i 7)] [],m (l 1)] [(4,2)] []
 |11=>R 11 [m (s 4),y .gtr (l 0) (i 0)] [(7,1)] []
 |12=>Y 13 [D (F (s 2) 10) [] [],D (L (l 0)) [8] [],D (P 15 (s 2)) [8] [],D (m (s 0)) [] [],D (F (s 2) 3) [] [],D (L (l 4)) [8] [],D (e (l 5)) [4] [],D (C 478 [v (l 3),r (l 6)] []) [0] [0],D (C 142 [r (l 2),r (l 7)] [10,11]) [2,3,4,5,7,10,11,14] [10,11],D (M 12 5 1 [l 8]) [10,11,12] [10,11,12],D (p 13 5 72 (l 1) (l 9)) [12,13,14] [12,13,14],D (F (s 2) 10) [] [],D (W 1 (l 11) (l 10)) [8] [8]] [] [] [10,11,12,13] [w 13 14]
 |13=>R 12 [m (s 4),y .sub (l 0) (i 1),m (l 1)] [(4,2)] []
 |_=>R 14 [P 15 (s 2),W 15 (s 1) (l 0)] [] [0,2,4]
def Jf:Ch:=⟨8,15,[0],1,true,[],j (d (AZ 0)) (j (d (AZ 1)) (j (d (AZ 2)) (j (j (d (AZ 3)) (.block 0 (.loop (j (j (d (AZ 4)) (h 5 (.skip) (.exit 0))) (j (.block 1 (j (d (AZ 5)) (h 6 (d (AZ 6)) (.skip)))) (d (AZ 7))))))) (j (d (AZ 8)) (j (d (AZ 9)) (j (j (d (AZ 10)) (.block 2 (.loop (j (j (d (AZ 11)) (h 7 (.skip) (.exit 2))) (j (.block 3 (d (AZ 12))) (d (AZ 13))))))) (j (d (AZ 14)) (.ret)))))))),[.cell 1 (some 15)]⟩
def WN:List Tmp:=[0,2,3,4,5,15,19,51]
def Bb:Nat→Ca
 |0=>R 0 [m (z 2)] [] [2]
 |1=>R 1 [m (s 1),C 310 [r (l 0)] [],m (l 1)] [(3,2)] []
 |2=>R 2 [m (s 0),C 311 [r (l 0)] [0],m (l 1)] [(4,2)] []
 |3=>R 3 [m (s 0),C 312 [r (l 0)] [],n (l 1),m (l 2),G 3 (m (s 0)),G 3 (e (l 4)),G 3 (y .geq (l 5) (i 6)),k (l 3) t (l 6),m (l 7),G 8 (m (s 0)),G 8 (m (s 3)),G 8 (C 309 [r (l 9),r (l 10)] []),G 8 (y .geq (l 11) (i 0)),k (l 8) t (l 12)] [(8,13)] []
 |4=>R 4 [m (s 4),m (l 0)] [(2,1)] [0,1,3,4]
 |5=>Q 5 [m (s 3),b [o,N 1] [(0,1,l 0)],a 1 [o,N 1],W 2 (l 2) (l 1)] [(5,2)] [3] [] [.ownc 1 1 9]
 |6=>R 6 [m (s 1),C 313 [r (l 0),r (i 2),r (i 3)] [],m (l 1)] [(6,2)] []
 |7=>R 7 [m (s 6),y .gtr (l 0) (i 0)] [(9,1)] []
 |8=>Y 9 [D (F (s 5) 1) [] [],D (L (l 0)) [1] [],D (m (s 1)) [] [],D (C 313 [r (l 2),r (i 3),r (i 256)] []) [] [],D (M 2 1 1 [l 3]) [2] [2],D (q 3 1 8 (l 1) (l 4)) [2,3,9] [3,9],D (F (s 5) 1) [] [],D (W 1 (l 6) (l 5)) [1] [1]] [] [] [2,3] [w 3 9]
 |9=>R 8 [m (s 6),y .sub (l 0) (i 1),m (l 1)] [(6,2)] []
 |10=>R 10 [m (s 1),m (s 0),e (l 1),y .add (l 2) (i 1),C 313 [r (l 0),r (i 1),r (l 3)] [],m (l 4)] [(7,5)] [0,1,6]
 |_=>T 11 [D (M 4 2 0 []) [4] [4],D (m (s 4)) [] [],D (m (s 7)) [] [],D (.slice 2 (l 1) none (some (l 2))) [0] [],D (p 5 2 32 (l 0) (l 3)) [0,4,5,100000] [0,4,5,100000],D (P 2 (s 5)) [1] [],D (M 6 2 1 [l 5]) [6,9] [6,9],D (p 7 2 32 (l 4) (l 6)) [5,6,7] [5,6,7],D (m (s 4)) [] [],D (m (s 7)) [] [],D (.slice 2 (l 8) (some (l 9)) none) [0] [],D (p 8 2 32 (l 7) (l 10)) [0,7,8,100000] [0,7,8,100000],D (m (l 11)) [] []] [(2,12)] [4,5,7]
def KU:Ch:=⟨10,10,[0,1],0,false,[],j (d (Bb 0)) (j (d (Bb 1)) (j (d (Bb 2)) (j (j (d (Bb 3)) (h 8 (j (d (Bb 4)) (.ret)) (.skip))) (j (d (Bb 5)) (j (j (d (Bb 6)) (.block 0 (.loop (j (j (d (Bb 7)) (h 9 (.skip) (.exit 0))) (j (.block 1 (d (Bb 8))) (d (Bb 9))))))) (j (d (Bb 10)) (j (d (Bb 11)) (.ret)))))))),[.slot 2]⟩
def UO:List Tmp:=[0,1,4,5,6,7,8,9,27,34]
attribute [simp] EK KR DZ Kg Ct Kc D5 Ki L8 LF Bp LJ Cx Km Bt Lu D6 Ke Au LK El Lm DW Kn Ny Ng Cs LA Co LG A8 Ju BB Kl CK Fh AZ Jf Bb KU
end Go.Eng.T
namespace Go.Eng.T
set_option maxRecDepth 20000
set_option maxHeartbeats 1000000
theorem Afn (D:Dn):VZ (Body D K5):=by
 intro xs ys h1 h2
 unfold maxLen at h1 h2
 by_cases hl:xs.length=ys.length
 rotate_left
 ·have hl':¬(xs.length:Int)=ys.length:=by omega
  have:xs≠ys:=fun h=>hl (by rw[h])
  simp -implicitDefEqProofs [hl',this]
 have hl':(xs.length:Int)=ys.length:=by omega
 simp -implicitDefEqProofs [hl']
 refine Af (fun k s=>∃j,j+k=xs.length∧xs.take j=ys.take j∧s=⟨[.sl 1 1 xs.length (ints xs),.sl 1 1 ys.length (ints ys),.undef,I j,.undef,.undef,.undef],[]⟩) ?_ (xs.length) _ ⟨0,by simp,by simp,by simp⟩
 intro k s ⟨j,hj,hp,hs⟩
 subst hs
 by_cases hjn:j<xs.length
 ·have hw:IntKind.i64.wrap ((j:Int)+1)=(j+1:Nat):=by rw[Ab (by omega) (by omega)];simp
  have hy:j<ys.length:=by omega
  by_cases he:xs[j]=ys[j]
  ·simp -implicitDefEqProofs [hjn,hy,he]
   exact⟨k-1,by omega,j+1,by omega,AeF hjn hy hp he,by simp[hw]⟩
  ·have hne:xs≠ys:=fun h=>he (by simp[h])
   simp -implicitDefEqProofs [hjn,hy,he,hne]
 ·obtain rfl:xs=ys:=Ail (by omega) hl hp
  simp -implicitDefEqProofs [hjn]
abbrev VU (R:Rel):Prop:=∀a b:List Ext,OI a→OI b→R [.sl 1 2 a.length (a.flatMap CW),.sl 1 2 b.length (b.flatMap CW)] [] (B (decide (a=b))) []
theorem ext_eq {a b:Ext} (h1:a.tag=b.tag) (h2:a.body=b.body):a=b:=by cases a;cases b;simp_all
theorem Ae1 (D:Dn) (hE:VZ (D PX)):VU (Body D KZ):=by
 intro a b ha hb
 have h1:=ha.1
 have h2:=hb.1
 by_cases hl:a.length=b.length
 rotate_left
 ·have hl':¬(a.length:Int)=b.length:=by omega
  have:a≠b:=fun h=>hl (by rw[h])
  simp -implicitDefEqProofs [hl',this]
 have hl':(a.length:Int)=b.length:=by omega
 simp -implicitDefEqProofs [hl']
 refine Af (fun k s=>∃j,j+k=a.length∧a.take j=b.take j∧s=⟨[.sl 1 2 a.length (a.flatMap CW),.sl 1 2 b.length (b.flatMap CW),.undef,I j,.undef,.undef,.undef],[]⟩) ?_ (a.length) _ ⟨0,by simp,by simp,by simp⟩
 intro k s ⟨j,hj,hp,hs⟩
 subst hs
 by_cases hjn:j<a.length
 ·have hw:IntKind.i64.wrap ((j:Int)+1)=(j+1:Nat):=by rw[Ab (by omega) (by omega)];simp
  have hy:j<b.length:=by omega
  by_cases g1:a[j].tag=b[j].tag
  rotate_left
  ·have hne:a≠b:=fun h=>g1 (by simp[h])
   simp -implicitDefEqProofs [hjn,hy,g1,hne]
  simp -implicitDefEqProofs [hjn,hy,g1]
  refine Aa (hE a[j].body b[j].body (by have:=O4 ha hjn;unfold maxLen;omega) (by have:=O4 hb hy;unfold maxLen;omega)) ?_
  by_cases g2:a[j].body=b[j].body
  ·simp -implicitDefEqProofs [g2]
   exact⟨k-1,by omega,j+1,by omega,AeF hjn hy hp (ext_eq g1 g2),by simp[hw]⟩
  ·have hne:a≠b:=fun h=>g2 (by simp[h])
   simp -implicitDefEqProofs [g2,hne]
 ·obtain rfl:a=b:=Ail (by omega) hl hp
  simp -implicitDefEqProofs [hjn]
abbrev RA (R:Rel):Prop:=∀a b:Hello,hB a→hB b→R [arg (Cz a),arg (Cz b)] [] (B (decide (a=b))) []
theorem Aig {a b:Hello} (h1:a.versions=b.versions) (h2:a.exts=b.exts):a=b:=by cases a;cases b;simp_all
theorem AbK (D:Dn) (hE:VZ (D PX)) (hX:VU (D PZ)):RA (Body D IQ):=by
 intro a b ha hb
 simp -implicitDefEqProofs
 refine Aa (hE a.versions b.versions (by have:=ha.1;unfold maxLen;omega) (by have:=hb.1;unfold maxLen;omega)) ?_
 by_cases g1:a.versions=b.versions
 rotate_left
 ·have hne:a≠b:=fun h=>g1 (by simp[h])
  simp -implicitDefEqProofs [g1,hne]
 simp -implicitDefEqProofs [g1]
 refine Aa (hX a.exts b.exts ha.2 hb.2) ?_
 by_cases g2:a.exts=b.exts
 ·have e:=Aig g1 g2
  simp -implicitDefEqProofs [g2,e]
 ·have hne:a≠b:=fun h=>g2 (by simp[h])
  simp -implicitDefEqProofs [g2,hne]
theorem Aeo:∀ {path:List Fa} {h:Hello},hB h→hB (H8 path h).1
 | [],h,hh=>hh
 | b::r,h,hh=>by
  unfold H8
  split
  ·exact Aeo (Al1 hh)
  ·exact AbC
theorem Rm {path:List Fa} {h:Hello} (hh:hB h):hB (Bq path h).1:=by
 unfold Bq
 split
 ·exact Aeo hh
 ·exact AbC
theorem Yu:∀ {path:List Fa} {h:Hello},(H8 path h).2=true→(H8 path h).1.versions=h.versions
 | [],h,_=>rfl
 | b::r,h,hk=>by
  unfold H8 at hk⊢
  split at hk
  ·rename_i hb
   rw[if_pos hb,Yu hk]
   unfold Cn at hb⊢
   split at hb
   ·rename_i hc;rw[if_pos hc]
   ·cases hb
  ·cases hk
theorem AdH {path:List Fa} {h:Hello} (hk:(Bq path h).2=true):(Bq path h).1.versions=h.versions:=by
 unfold Bq at hk⊢
 split at hk
 ·rename_i hc;rw[if_pos hc];exact Yu hk
 ·cases hk
def Ff (h:Hello) (path:List Fa):Bool:=(Bq path h).2&&decide ((Bq path h).1=h)
abbrev Ll (R:Rel):Prop:=∀(h:Hello) (path:List Fa),hB h→lnS KP path→R [arg (Cz h),.sl 1 4 path.length (path.flatMap Cm)] [] (B (Ff h path)) []
theorem Abx (D:Dn) (hP:JX (D Jk)) (hQ:RA (D Vs)):Ll (Body D I7):=by
 intro h path hh hb
 simp -implicitDefEqProofs
 refine Aa (hP path h hb hh) ?_
 have hr:=Rm (path:=path) hh
 have e:Ff h path=((Bq path h).2&&decide ((Bq path h).1=h)):=rfl
 generalize Bq path h=r at hr e
 by_cases g1:r.2=true
 rotate_left
 ·simp -implicitDefEqProofs [g1,e]
 simp -implicitDefEqProofs [g1]
 refine Aa (hQ r.1 h hr hh) ?_
 simp -implicitDefEqProofs [e,g1]
end Go.Eng.T
namespace Go.Eng.T
set_option maxRecDepth 20000
set_option maxHeartbeats 1000000
def M0 (path:List Fa) (vs:List Int) (x:Ext):Bool:= !Ff ⟨vs.take 1,[x]⟩ path
def Gv (path:List Fa) (vs:List Int) (l:List Ext):List Int:=if Ez l&&isOpen path vs then Bl (l.filter (M0 path vs))else []
abbrev Rt (R:Rel):Prop:=∀(path:List Fa) (vs:List Int) (l:List Ext),lnS KP path→vs.length≤4194304→OI l→R [.sl 1 4 path.length (path.flatMap Cm),.sl 1 1 vs.length (ints vs),.sl 1 2 l.length (l.flatMap CW)] [] (.sl 0 1 (Gv path vs l).length (ints (Gv path vs l))) []
theorem Aqd {path:List Fa} {vs:List Int} (h:isOpen path vs=true):0<vs.length:=by
 unfold isOpen at h
 simp only[Bool.and_eq_true]at h
 exact Abg h.1
theorem Aj0 {p:Ext→Bool} {l:List Ext} {j:Nat} (h:j<l.length):Bl ((l.take (j+1)).filter p)=Bl ((l.take j).filter p)++(if p l[j]then [l[j].tag]else []):=by
 rw[Abq h]
 unfold Bl
 rw[List.map_append]
 split<;>simp
theorem Anb {p:Ext→Bool} {l:List Ext} {j:Nat}:(Bl ((l.take j).filter p)).length≤j:=by
 unfold Bl
 rw[List.length_map]
 exact Aeb
theorem Aki {path:List Fa} {vs:List Int} {x:Ext}:M0 path vs x= !((Bq path ⟨vs.take 1,[x]⟩).2&&decide ((Bq path ⟨vs.take 1,[x]⟩).1.exts=[x])):=by
 unfold M0 Ff
 by_cases h:(Bq path ⟨vs.take 1,[x]⟩).2=true
 ·have hv:=AdH h
  have e:decide ((Bq path ⟨vs.take 1,[x]⟩).1=⟨vs.take 1,[x]⟩)=decide ((Bq path ⟨vs.take 1,[x]⟩).1.exts=[x]):=by
   rw[decide_eq_decide]
   constructor
   ·intro h1;rw[h1]
   ·intro h1;exact Aig hv h1
  rw[e]
 ·simp[h]
theorem AiE (D:Dn) (hA:KO (D G6)) (hO:KF (D Ob)) (hH:KG (D OB)) (hP:JX (D Jk)) (hX:VU (D PZ)):Rt (Body D ML):=by
 intro path vs l hb hv hl
 have hll:=hl.1
 simp -implicitDefEqProofs
 refine Aa (hA l hl) ?_
 by_cases h1:Ez l=true
 rotate_left
 ·simp -implicitDefEqProofs [h1,Gv]
 simp -implicitDefEqProofs [h1]
 refine Aa (hO path vs hb hv) ?_
 by_cases h2:isOpen path vs=true
 rotate_left
 ·simp -implicitDefEqProofs [h2,h1,Gv]
 have e:Gv path vs l=Bl (l.filter (M0 path vs)):=by unfold Gv;rw[h1,h2];rfl
 have hpos:=Aqd h2
 have h1l:(1:Int)≤vs.length:=by omega
 have h1n:1≤vs.length:=by omega
 have hlen:(vs.take 1).length=1:=by simp;omega
 have hmin:min 1 vs.length=1:=by omega
 rw[e]
 simp -implicitDefEqProofs [h2]
 refine Af (fun k s=>∃j o1 o2 o3 o4 o5 o6 o7 o8,j+k=l.length∧s=⟨[.sl 1 4 path.length (path.flatMap Cm),.sl 1 1 vs.length (ints vs),.sl 1 2 l.length (l.flatMap CW),.undef,.arr 9,I j,.undef,.undef,.undef,.undef,.undef,.undef],[.free,o1,o2,o3,o4,o5,o6,o7,o8,.arr 1 0 (Bl ((l.take j).filter (M0 path vs))).length (ints (Bl ((l.take j).filter (M0 path vs))))]⟩) ?_ (l.length) _ ⟨0,.free,.free,.free,.free,.free,.free,.free,.free,by simp,by simp[Bl,ints]⟩
 intro k s ⟨j,o1,o2,o3,o4,o5,o6,o7,o8,hj,hs⟩
 subst hs
 by_cases hjn:j<l.length
 ·have hw:IntKind.i64.wrap ((j:Int)+1)=(j+1:Nat):=by rw[Ab (by omega) (by omega)];simp
  have hst:=Aj0 (p:=M0 path vs) hjn
  have hfl:=Anb (p:=M0 path vs) (l:=l) (j:=j)
  have hb1:((Bl ((l.take j).filter (M0 path vs))).length+1)*8≤1099511627776:=by omega
  have hw1:IntKind.i64.wrap ((j:Int)+1)=(j:Int)+1:=Ab (by omega) (by omega)
  have hj1:j+1≤l.length:=by omega
  have hj2:(j:Int)+1≤l.length:=by omega
  have hjj:(j:Int)≤(j:Int)+1:=by omega
  have h11:j+1-j=1:=by omega
  simp -implicitDefEqProofs [hjn,h1l,h1n]
  have hh:=hH (vs.take 1) (by omega)
  rw[hlen]at hh
  refine Aa (hh) ?_
  have hdt:(l.drop j).take 1=[l[j]]:=by rw[List.drop_eq_getElem_cons hjn];rfl
  simp -implicitDefEqProofs [hmin,hw1,hj1,hj2,hjj,h11,hdt]
  have hhB:hB ⟨vs.take 1,[l[j]]⟩:=⟨by simp;omega,by simp,by intro x hx;simp at hx;subst hx;exact O4 hl hjn⟩
  have hp:=hP path ⟨vs.take 1,[l[j]]⟩ hb hhB
  have hr:=Rm (path:=path) hhB
  have hq:=Aki (path:=path) (vs:=vs) (x:=l[j])
  simp -implicitDefEqProofs [hmin,arg]at hp
  refine Aa (hp) ?_
  generalize Bq path ⟨vs.take 1,[l[j]]⟩=r at hr hq
  by_cases g1:r.2=true
  rotate_left
  ·have h3:M0 path vs l[j]=true:=by rw[hq];simp[g1]
   rw[if_pos h3]at hst
   simp -implicitDefEqProofs [g1,hjn,hb1]
   exact⟨k-1,by omega,j+1,by omega,by simp[hw],by rw[hst];simp,by rw[hst]⟩
  simp -implicitDefEqProofs [g1]
  have hx:=hX r.1.exts [l[j]] hr.2 hhB.2
  simp -implicitDefEqProofs [arg]at hx
  refine Aa (hx) ?_
  by_cases g2:r.1.exts=[l[j]]
  ·have h3:¬M0 path vs l[j]=true:=by rw[hq];simp[g1,g2]
   rw[if_neg h3,List.append_nil]at hst
   simp -implicitDefEqProofs [g2]
   exact⟨k-1,by omega,j+1,by omega,by simp[hw],by rw[hst],by rw[hst]⟩
  ·have h3:M0 path vs l[j]=true:=by rw[hq];simp[g2]
   rw[if_pos h3]at hst
   simp -implicitDefEqProofs [g2,hjn,hb1]
   exact⟨k-1,by omega,j+1,by omega,by simp[hw],by rw[hst];simp,by rw[hst]⟩
 ·have e2:(l.take j).filter (M0 path vs)=l.filter (M0 path vs):=Aen (by omega)
  simp -implicitDefEqProofs [hjn,e2]
end Go.Eng.T
namespace Go.Eng.T
set_option maxRecDepth 20000
set_option maxHeartbeats 1000000
theorem O5 (a b:List Int):(leftOf a b).length≤a.length:=List.length_filter_le _ _
def Fz (h:Hello) (lv lt:List Int):Hello×Bool:=if D9 h&& !decide (leftOf h.versions lv=[])then(⟨leftOf h.versions lv,kept (fun t=> !decide (t∈lt)) h.exts⟩,true)else(Bd,false)
abbrev OQ (R:Rel):Prop:=∀(h:Hello) (lv lt:List Int),hB h→lv.length≤4194304→lt.length≤4194304→R [arg (Cz h),.sl 1 1 lv.length (ints lv),.sl 1 1 lt.length (ints lt)] [] (.tup [.agg (Cz (Fz h lv lt).1),B (Fz h lv lt).2]) []
theorem AfM (D:Dn) (hI:F9 (D EH)) (hH:P5 (D Gi)):OQ (Body D KY):=by
 intro h lv lt hh hv ht
 have hvl:=hh.1
 have hxl:=hh.2.1
 simp -implicitDefEqProofs
 refine Aa (hI h hh) ?_
 by_cases h1:D9 h=true
 rotate_left
 ·simp -implicitDefEqProofs [h1,Fz,Bd]
 have e1:leftOf h.versions lv=h.versions.filter (fun v=> !decide (v∈lv)):=rfl
 unfold Fz
 rw[h1,e1]
 generalize hp:(fun v=> !decide (v∈lv))=p
 generalize hq:(fun t=> !decide (t∈lt))=q
 obtain⟨vs,hvs⟩:∃vs,vs=h.versions.filter p:=⟨_,rfl⟩
 rw[←hvs]
 simp -implicitDefEqProofs [h1]
 refine Af (fun k s=>∃j o3 o4,j+k=h.versions.length∧s=⟨[.undef,.sl 1 1 lv.length (ints lv),.sl 1 1 lt.length (ints lt),.ptr 0 0,.ptr 1 0,.undef,.ptr 2 0,I j,.undef,.undef,.undef,.undef,.undef,.undef,.undef],[.var ((Cz h).map (AA 1)),.var [.nil 1,.nil 2],.var [.arr 9,.arr 10],o3,o4,.free,.free,.free,.free,.arr 1 0 ((h.versions.take j).filter p).length (ints ((h.versions.take j).filter p)),.arr 2 0 0 []]⟩) ?_ (h.versions.length) _ ⟨0,.free,.free,by simp,by simp⟩
 intro k s ⟨j,o3,o4,hj,hs⟩
 subst hs
 by_cases hjn:j<h.versions.length
 ·have hw:IntKind.i64.wrap ((j:Int)+1)=(j+1:Nat):=by rw[Ab (by omega) (by omega)];simp
  have hst:=Iq (p:=p) hjn
  have hfl:=Kw (p:=p) (xs:=h.versions) (j:=j)
  have hb1:(((h.versions.take j).filter p).length+1)*8≤1099511627776:=by omega
  have hpv:p h.versions[j]= !decide (h.versions[j]∈lv):=by rw[←hp]
  simp -implicitDefEqProofs [hjn]
  refine Aa (hH lv h.versions[j] (by unfold maxLen;omega)) ?_
  by_cases h2:h.versions[j]∈lv
  ·have h3:¬p h.versions[j]=true:=by rw[hpv];simpa using h2
   rw[if_neg h3,List.append_nil]at hst
   simp -implicitDefEqProofs [h2]
   exact⟨k-1,by omega,j+1,by omega,by simp[hw],by rw[hst],by rw[hst]⟩
  ·have h3:p h.versions[j]=true:=by rw[hpv];simpa using h2
   rw[if_pos h3]at hst
   simp -implicitDefEqProofs [h2,hjn,hb1]
   exact⟨k-1,by omega,j+1,by omega,by simp[hw],by rw[hst];simp,by rw[hst]⟩
 have e2:=KJ (p:=p) (xs:=h.versions) (j:=j) (by omega)
 rw[←hvs]at e2
 simp -implicitDefEqProofs [hjn,e2]
 refine Af (fun k s=>∃j o3 o4 o5 o6 o7 o8,j+k=h.exts.length∧s=⟨[.undef,.undef,.sl 1 1 lt.length (ints lt),.ptr 0 0,.ptr 1 0,.undef,.ptr 2 0,.undef,I j,.undef,.undef,.undef,.undef,.undef,.undef],[.var ((Cz h).map (AA 1)),.var [.nil 1,.nil 2],.var [.arr 9,.arr 10],o3,o4,o5,o6,o7,o8,.arr 1 0 vs.length (ints vs),.arr 2 0 (kept q (h.exts.take j)).length ((kept q (h.exts.take j)).flatMap CW)]⟩) ?_ (h.exts.length) _ ⟨0,o3,o4,.free,.free,.free,.free,by simp,by simp[kept]⟩
 intro k s ⟨j,o3,o4,o5,o6,o7,o8,hj,hs⟩
 subst hs
 by_cases hjn:j<h.exts.length
 ·have hw:IntKind.i64.wrap ((j:Int)+1)=(j+1:Nat):=by rw[Ab (by omega) (by omega)];simp
  have hb:=O4 hh.2 hjn
  have hb1:h.exts[j].body.length*8≤1099511627776:=by omega
  have hkl:=Qr (p:=q) (l:=h.exts) (j:=j)
  have hb2:((kept q (h.exts.take j)).length+1)*32≤1099511627776:=by omega
  have hpv:q h.exts[j].tag= !decide (h.exts[j].tag∈lt):=by rw[←hq]
  simp -implicitDefEqProofs [hjn]
  refine Aa (hH lt h.exts[j].tag (by unfold maxLen;omega)) ?_
  by_cases h2:h.exts[j].tag∈lt
  ·have h3:¬q h.exts[j].tag=true:=by rw[hpv];simpa using h2
   have hst:=RP (p:=q) hjn
   rw[if_neg h3,List.append_nil]at hst
   simp -implicitDefEqProofs [h2]
   exact⟨k-1,by omega,j+1,by omega,by simp[hw],by rw[hst],by rw[hst]⟩
  ·have h3:q h.exts[j].tag=true:=by rw[hpv];simpa using h2
   have hst:=OD hjn h3
   have hsl:=GX hjn h3
   simp -implicitDefEqProofs [h2,hjn,hb1,hb2]
   exact⟨k-1,by omega,j+1,by omega,by simp[hw],by rw[←hsl],by rw[←hst]⟩
 have e3:=QG (p:=q) (l:=h.exts) (j:=j) (by omega)
 by_cases g:vs=[]
 ·simp -implicitDefEqProofs [hjn,e3,g,Bd]
 ·have g':¬(vs.length:Int)=0:=by
   intro h0
   exact g (List.eq_nil_of_length_eq_zero (by omega))
  simp -implicitDefEqProofs [hjn,e3,g',g]
def fallback (h:Hello) (path:List Fa):Hello×Bool:=Fz h (CG path h.versions) (Gv path (leftOf h.versions (CG path h.versions)) h.exts)
abbrev RO (R:Rel):Prop:=∀(h:Hello) (path:List Fa),hB h→lnS KP path→R [arg (Cz h),.sl 1 4 path.length (path.flatMap Cm)] [] (.tup [.agg (Cz (fallback h path).1),B (fallback h path).2]) []
theorem Afk (path:List Fa) (vs:List Int) (l:List Ext):(Gv path vs l).length≤l.length:=by
 unfold Gv Bl
 split
 ·rw[List.length_map];exact List.length_filter_le _ _
 ·simp
theorem Ag1 (D:Dn) (hI:F9 (D EH)) (hLV:Kk (D Ux)) (hL:VL (D Tm)) (hT:Rt (D Aam)) (hP:OQ (D Zq)):RO (Body D GL):=by
 intro h path hh hb
 simp -implicitDefEqProofs
 refine Aa (hI h hh) ?_
 by_cases g1:D9 h=true
 rotate_left
 ·have e:fallback h path=(Bd,false):=by unfold fallback Fz;simp[g1]
  simp -implicitDefEqProofs [g1,e,Bd]
 have hvl:=hh.1
 have hxl:=hh.2.1
 simp -implicitDefEqProofs [g1]
 refine Aa (hLV path h.versions hb hh.1) ?_
 have hll:=ArD path h.versions
 have e:fallback h path=Fz h (CG path h.versions) (Gv path (leftOf h.versions (CG path h.versions)) h.exts):=rfl
 rw[e]
 generalize CG path h.versions=lv at hll
 simp -implicitDefEqProofs
 refine Aa (hL h.versions lv hh.1 (by omega)) ?_
 have hl2:=O5 h.versions lv
 generalize leftOf h.versions lv=vs at hl2
 simp -implicitDefEqProofs
 refine Aa (hT path vs h.exts hb (by omega) hh.2) ?_
 have hl3:=Afk path vs h.exts
 generalize Gv path vs h.exts=lt at hl3
 simp -implicitDefEqProofs
 refine Aa (hP h lv lt hh (by omega) (by omega)) ?_
 generalize Fz h lv lt=r
 simp -implicitDefEqProofs
theorem AtB {h:Hello} {lv lt:List Int} (hh:hB h):hB (Fz h lv lt).1:=by
 unfold Fz
 split
 ·exact⟨Nat.le_trans (O5 _ _) hh.1,Qj hh.2 (fun t=> !decide (t∈lt))⟩
 ·exact AbC
theorem AlZ {h:Hello} {path:List Fa} (hh:hB h):hB (fallback h path).1:=AtB hh
def DI (h:Hello) (path:List Fa):Hello×Int×Bool:=
 if D9 h=true then(if Ff h path=true then(h,1,true)else if(fallback h path).2&&Ff (fallback h path).1 path then((fallback h path).1,2,true)else(Bd,2,false))else(Bd,0,false)
abbrev Rq (R:Rel):Prop:=∀(h:Hello) (path:List Fa),hB h→lnS KP path→R [arg (Cz h),.sl 1 4 path.length (path.flatMap Cm)] [] (.tup [.agg (Cz (DI h path).1),I (DI h path).2.1,B (DI h path).2.2]) []
theorem AiJ (D:Dn) (hI:F9 (D EH)) (hW:Ll (D VO)) (hC:QW (D Rf)) (hF:RO (D R9)):Rq (Body D ME):=by
 intro h path hh hb
 simp -implicitDefEqProofs
 refine Aa (hI h hh) ?_
 by_cases g1:D9 h=true
 rotate_left
 ·simp -implicitDefEqProofs [g1,DI,Bd]
 simp -implicitDefEqProofs [g1]
 refine Aa (hW h path hh hb) ?_
 by_cases g2:Ff h path=true
 ·simp -implicitDefEqProofs [g2]
  refine Aa (hC h hh) ?_
  simp -implicitDefEqProofs [DI,g1,g2]
 simp -implicitDefEqProofs [g2]
 refine Aa (hF h path hh hb) ?_
 have hr:=AlZ (path:=path) hh
 have e:DI h path=(if(fallback h path).2&&Ff (fallback h path).1 path then((fallback h path).1,2,true)else(Bd,2,false)):=by unfold DI;rw[if_pos g1,if_neg g2]
 rw[e]
 generalize fallback h path=r at hr
 by_cases g3:r.2=true
 rotate_left
 ·simp -implicitDefEqProofs [g3,Bd]
 simp -implicitDefEqProofs [g3]
 refine Aa (hW r.1 path hr hb) ?_
 by_cases g4:Ff r.1 path=true
 ·simp -implicitDefEqProofs [g3,g4]
 ·simp -implicitDefEqProofs [g3,g4,Bd]
theorem AtC {h:Hello} {path:List Fa} (hh:hB h):hB (DI h path).1:=by
 unfold DI
 split
 ·split
  ·exact hh
  ·split
   ·exact AlZ hh
   ·exact AbC
 ·exact AbC
end Go.Eng.T
namespace Go.Eng.T
set_option maxRecDepth 20000
set_option maxHeartbeats 2000000
open Go.Lib (compact compactUpTo keeps)
abbrev Up (l:List Int):Prop:=l.Pairwise (· < ·)
theorem Av5:∀ {a b:List Int},Up a→Up b→(∀x,x∈a↔x∈b)→a=b
 | [],[],_,_,_=>rfl
 | [],y::b,_,_,h=>by have:=(h y).2 (by simp);simp at this
 | x::a,[],_,_,h=>by have:=(h x).1 (by simp);simp at this
 | x::a,y::b,ha,hb,h=>by
  rw[Up,List.pairwise_cons]at ha hb
  have hxy:x=y:=by
   have h1:=(h x).1 (by simp)
   have h2:=(h y).2 (by simp)
   rcases List.mem_cons.1 h1 with e | h1
   ·exact e
   ·rcases List.mem_cons.1 h2 with e | h2
    ·exact e.symm
    ·have:=hb.1 x h1;have:=ha.1 y h2;omega
  subst hxy
  congr 1
  refine Av5 ha.2 hb.2 fun z=>⟨fun hz=> ?_,fun hz=> ?_⟩
  ·rcases List.mem_cons.1 ((h z).1 (by simp[hz]))with e | h1
   ·subst e;have:=ha.1 z hz;omega
   ·exact h1
  ·rcases List.mem_cons.1 ((h z).2 (by simp[hz]))with e | h1
   ·subst e;have:=hb.1 z hz;omega
   ·exact h1
theorem GY:∀(l:List Int) (v x:Int),x∈EW l v↔x∈l∨x=v:=by
 intro l v x
 unfold EW
 split
 ·rename_i h
  constructor
  ·exact .inl
  ·rintro (h1 | rfl)
   ·exact h1
   ·exact List.mem_of_getElem? h
 ·unfold AaV
  rw[List.mem_append,List.mem_cons]
  have:x∈l↔x∈l.take (E8 l v)∨x∈l.drop (E8 l v):=by
   conv=>lhs;rw[←List.take_append_drop (E8 l v) l,List.mem_append]
  rw[this]
  constructor
  ·rintro (h1 | h1 | h1)
   ·exact .inl (.inl h1)
   ·exact .inr h1
   ·exact .inl (.inr h1)
  ·rintro ((h1 | h1) | h1)
   ·exact .inl h1
   ·exact .inr (.inr h1)
   ·exact .inr (.inl h1)
theorem Yd:∀(l:List Int) (v x:Int),x∈l.take (E8 l v)→x<v
 | [],v,x,h=>by simp at h
 | y::r,v,x,h=>by
  simp only[E8]at h
  split at h
  ·rw[List.take_succ_cons]at h
   rcases List.mem_cons.1 h with rfl | h
   ·assumption
   ·exact Yd r v x h
  ·simp at h
theorem Z9:∀ {l:List Int} (v:Int),Up l→Up (EW l v):=by
 intro l v hl
 unfold EW
 split
 ·exact hl
 ·rename_i hne
  unfold AaV Up
  rw[List.pairwise_append,List.pairwise_cons]
  have hb:=Yd l v
  have hafter:∀y,y∈l.drop (E8 l v)→v<y:=by
   intro y hy
   by_cases hk:E8 l v<l.length
   ·have hs:=Xn (l:=l) (v:=v) hk (by
     intro hlt
     have key:∀(l:List Int) (h:E8 l v<l.length),¬l[E8 l v]<v:=by
      intro l
      induction l with
      | nil=>intro h;simp at h
      | cons x r ih=>
       intro h
       by_cases hx:x<v
       ·have e:E8 (x::r) v=E8 r v+1:=by simp[E8,hx]
        have h':E8 r v<r.length:=by rw[e]at h;simpa using h
        have:=ih h'
        simp only[e,List.getElem_cons_succ]
        exact this
       ·have e:E8 (x::r) v=0:=by simp[E8,hx]
        simp only[e,List.getElem_cons_zero]
        exact hx
     exact key l hk hlt)
    have key:∀(l:List Int) (h:E8 l v<l.length),¬l[E8 l v]<v:=by
     intro l
     induction l with
     | nil=>intro h;simp at h
     | cons x r ih=>
      intro h
      by_cases hx:x<v
      ·have e:E8 (x::r) v=E8 r v+1:=by simp[E8,hx]
       have h':E8 r v<r.length:=by rw[e]at h;simpa using h
       have:=ih h'
       simp only[e,List.getElem_cons_succ]
       exact this
      ·have e:E8 (x::r) v=0:=by simp[E8,hx]
       simp only[e,List.getElem_cons_zero]
       exact hx
    have h1:=key l hk
    have h2:l[E8 l v]≠v:=by
     intro e;apply hne;rw[List.getElem?_eq_getElem hk,e]
    rw[List.drop_eq_getElem_cons hk]at hy
    have hp:(l[E8 l v]::l.drop (E8 l v+1)).Pairwise (· < ·):=by rw[←List.drop_eq_getElem_cons hk];exact hl.drop
    rw[List.pairwise_cons]at hp
    rcases List.mem_cons.1 hy with rfl | hy
    ·omega
    ·have:=hp.1 y hy;omega
   ·rw[List.drop_eq_nil_of_le (by omega)]at hy;simp at hy
  refine⟨hl.take,⟨hafter,hl.drop⟩,fun a ha b hb'=> ?_⟩
  have h1:=hb a ha
  rcases List.mem_cons.1 hb' with rfl | hb'
  ·exact h1
  ·have:=hafter b hb';omega
def Ub (l:List Int) (xs:List Int):List Int:=xs.foldl EW l
theorem AmF:∀ {xs l:List Int},Up l→Up (Ub l xs)
 | [],_,h=>h
 | x::xs,l,h=>AmF (xs:=xs) (Z9 x h)
theorem Akj:∀(xs l:List Int) (x:Int),x∈Ub l xs↔x∈l∨x∈xs
 | [],l,x=>by simp[Ub]
 | y::xs,l,x=>by
  have:=Akj xs (EW l y) x
  unfold Ub at *
  rw[List.foldl_cons,this,GY,List.mem_cons]
  constructor
  ·rintro ((h | h) | h)
   ·exact .inl h
   ·exact .inr (.inl h)
   ·exact .inr (.inr h)
  ·rintro (h | h | h)
   ·exact .inl (.inl h)
   ·exact .inl (.inr h)
   ·exact .inr h
theorem Ajk:∀(xs l:List Int),(Ub l xs).length≤l.length+xs.length
 | [],l=>by simp[Ub]
 | x::xs,l=>by
  have h1:=Ajk xs (EW l x)
  have h2:=Oe l x
  unfold Ub at *
  simp only[List.foldl_cons,List.length_cons]
  omega
def AvU (r:Dz) (i:Nat):Dz:=⟨r.version,r.stages,i,r.off⟩
def Awh (r:Dz) (n:Int):Nat→Int
 | 0=>0
 | k+1=>max (Awh r n k) (countIn (AvU r k) n)
end Go.Eng.T
namespace Go.Eng.T
set_option maxRecDepth 20000
end Go.Eng.T
namespace Go.Eng.T
set_option maxRecDepth 20000
set_option maxHeartbeats 2000000
theorem up9:∀ {l:List Int} {a:Int},Up l→(∀x,x∈l→a<x∧x≤9)→(l.length:Int)≤9-a∨l=[]
 | [],_,_,_=> .inr rfl
 | x::r,a,h,hb=>by
  rw[Up,List.pairwise_cons]at h
  have h0:=hb x (by simp)
  have:=up9 (l:=r) (a:=x) h.2 (fun y hy=>⟨h.1 y hy,(hb y (by simp[hy])).2⟩)
  left
  rcases this with h1 | rfl
  ·simp only[List.length_cons];omega
  ·simp;omega
theorem Aqx {l:List Int} (h:AP l=true):l.length≤9:=by
 have:=up9 (l:=l) (a:=0) (Xc h) (fun x hx=>by have:=Af4 h x hx;exact⟨by omega,by omega⟩)
 rcases this with h1 | rfl
 ·omega
 ·simp
end Go.Eng.T
namespace Go.Eng.T
set_option maxRecDepth 20000
set_option maxHeartbeats 1000000
def inB (t:Int):Bool:=decide (NA t 0 255)
def Ahq (b:List Int) (t:Int):Bool:= !decide (t∈b)&&inB t
def RU (h x:Hello):List Int:=leftOf h.versions x.versions++((Bl h.exts).filter (Ahq (Bl x.exts))).map (fun t=>1000+t)
abbrev Vi (R:Rel):Prop:=∀h x:Hello,hB h→hB x→R [arg (Cz h),arg (Cz x)] [] (.sl 0 1 (RU h x).length (ints (RU h x))) []
theorem Aob {p:Int→Bool} {a l:List Int} {j:Nat} (h:j<l.length):
 a++((l.take (j+1)).filter p).map (fun t=>1000+t)=(a++((l.take j).filter p).map (fun t=>1000+t))++(if p l[j]then [1000+l[j]]else []):=by
 rw[Iq h,List.map_append,List.append_assoc]
 split<;>simp
theorem AqZ {p:Int→Bool} {a l:List Int} {j:Nat}:(a++((l.take j).filter p).map (fun t=>1000+t)).length≤a.length+j:=by
 have:=Kw (p:=p) (xs:=l) (j:=j)
 simp only[List.length_append,List.length_map];omega
theorem AjO (D:Dn) (hL:VL (D Tm)) (hX:Ua (D M4)) (hI:Sk (D CQ)):Vi (Body D Nr):=by
 intro h x hh hx
 have hxl:=hx.2.1
 have hhl:=hh.2.1
 have hvl:=hh.1
 simp -implicitDefEqProofs
 refine Aa (hL h.versions x.versions hh.1 hx.1) ?_
 have hal:=O5 h.versions x.versions
 have e:RU h x=leftOf h.versions x.versions++((Bl h.exts).filter (Ahq (Bl x.exts))).map (fun t=>1000+t):=rfl
 rw[e]
 have hpd:∀t,Ahq (Bl x.exts) t=(!decide (t∈Bl x.exts)&&inB t):=fun t=>rfl
 generalize leftOf h.versions x.versions=a at hal
 generalize Ahq (Bl x.exts)=p at hpd
 have htl:(Bl h.exts).length=h.exts.length:=Vd _
 have hte:∀j (hj:j<h.exts.length),(Bl h.exts)[j]'(by omega)=h.exts[j].tag:=fun j hj=>by simp[Bl]
 obtain⟨l,hl⟩:∃l,l=Bl h.exts:=⟨_,rfl⟩
 rw[←hl]at htl⊢
 simp -implicitDefEqProofs
 refine Af (fun k s=>∃j o3 o4,j+k=h.exts.length∧s=⟨[.undef,.undef,.ptr 0 0,.ptr 1 0,.undef,.arr 5,I j,.undef,.undef],[.var ((Cz h).map (AA 1)),.var ((Cz x).map (AA 1)),.free,o3,o4,.arr 1 0 (a++((l.take j).filter p).map (fun t=>1000+t)).length (ints (a++((l.take j).filter p).map (fun t=>1000+t)))]⟩) ?_ (h.exts.length) _ ⟨0,.free,.free,by simp,by simp⟩
 intro k s ⟨j,o3,o4,hj,hs⟩
 subst hs
 by_cases hjn:j<h.exts.length
 ·have hw:IntKind.i64.wrap ((j:Int)+1)=(j+1:Nat):=by rw[Ab (by omega) (by omega)];simp
  have hjl:j<l.length:=by omega
  have hlt:l[j]=h.exts[j].tag:=by subst hl;exact hte j hjn
  have hst:=Aob (p:=p) (a:=a) hjl
  have hfl:=AqZ (p:=p) (a:=a) (l:=l) (j:=j)
  have hb1:((a++((l.take j).filter p).map (fun t=>1000+t)).length+1)*8≤1099511627776:=by omega
  have hpt:=hpd l[j]
  rw[hlt]at hst hpt
  generalize a++((l.take j).filter p).map (fun t=>1000+t)=r at hst hfl hb1
  simp -implicitDefEqProofs [hjn]
  refine Aa (hX x.exts h.exts[j].tag (by unfold maxLen;omega)) ?_
  by_cases h1:h.exts[j].tag∈Bl x.exts
  ·have h3:¬p h.exts[j].tag=true:=by rw[hpt];simp[h1]
   have h1':¬L6 x.exts h.exts[j].tag<0:=by rw[LU];simpa using h1
   rw[if_neg h3,List.append_nil]at hst
   simp -implicitDefEqProofs [h1']
   have hsl:=congrArg List.length hst
   simp only[List.length_append,List.length_map]at hsl
   exact⟨k-1,by omega,j+1,by omega,by simp[hw],by omega,by rw[hst]⟩
  have h1':L6 x.exts h.exts[j].tag<0:=by rw[LU];exact h1
  simp -implicitDefEqProofs [h1',hjn]
  refine Aa (hI _ _ _) ?_
  by_cases h2:NA h.exts[j].tag 0 255
  ·have h3:p h.exts[j].tag=true:=by rw[hpt];simp[h1,inB,h2]
   rw[if_pos h3]at hst
   have hw2:IntKind.i64.wrap (1000+h.exts[j].tag)=1000+h.exts[j].tag:=Ab (by have:=h2.1;omega) (by have:=h2.2;omega)
   simp -implicitDefEqProofs [h2,hjn,hb1,hw2]
   have hsl:=congrArg List.length hst
   simp only[List.length_append,List.length_map,List.length_cons,List.length_nil]at hsl
   exact⟨k-1,by omega,j+1,by omega,by simp[hw],by omega,by rw[hst]⟩
  ·have h3:¬p h.exts[j].tag=true:=by rw[hpt];simp[h1,inB,h2]
   rw[if_neg h3,List.append_nil]at hst
   simp -implicitDefEqProofs [h2]
   have hsl:=congrArg List.length hst
   simp only[List.length_append,List.length_map]at hsl
   exact⟨k-1,by omega,j+1,by omega,by simp[hw],by omega,by rw[hst]⟩
 ·have e2:=KJ (p:=p) (xs:=l) (j:=j) (by omega)
  simp -implicitDefEqProofs [hjn,e2]
def Gs:Akv:=⟨false,0,[]⟩
def AfO (h seen:Hello) (vs tags:List Int) (key:Int):Akv:=
 if(Bv vs tags seen).2&&(FD h (Bv vs tags seen).1&&(!decide (G9 key [Dp h,Cc (Bv vs tags seen).1] 1=0)&&
  decide (G9 key [Dp h,Cc (Bv vs tags seen).1] 1=G9 key [Dp seen,Cc (Bv vs tags seen).1] 1)))
 then⟨true,(Bv vs tags seen).1.version,Bl (Bv vs tags seen).1.exts⟩else Gs
theorem AhW (h:Hello):(Dp h).length≤47:=by
 unfold Dp
 have:=MV h.exts
 split
 ·rename_i hc
  have:=Aqx (AnH hc)
  simp only[List.length_append,List.length_cons];omega
 ·simp
theorem Arv (h:Hello) (a:Nt):K4 [Dp h,Cc a]≤4194304:=by
 have h1:=AhW h
 have h2:=Zm a
 simp[K4,Cg]
 omega
theorem Ajv {vs tags:List Int} {h:Hello} (hh:hB h):OI (Bv vs tags h).1.exts:=by
 unfold Bv
 split
 ·exact Qj (Qj hh.2 (fun t=>decide (t∈tags))) (fun t=> !AX t)
 ·exact AfZ
def Q6 (h:Hello) (path:List Fa) (vs tags:List Int) (key:Int):Akv:=if(Bq path h).2=true then AfO h (Bq path h).1 vs tags key else Gs
abbrev RN (R:Rel):Prop:=∀(h:Hello) (path:List Fa) (vs tags:List Int) (key:Int),hB h→lnS KP path→vs.length≤4194304→tags.length≤4194304→
 R [arg (Cz h),.sl 1 4 path.length (path.flatMap Cm),.sl 1 1 vs.length (ints vs),.sl 1 1 tags.length (ints tags),I key] [] (.agg (Aly (Q6 h path vs tags key))) []
theorem Aiz (D:Dn) (hP:JX (D Jk)) (hC:Aab (D Um)) (hFi:O8 (D YD)) (hHB:Nh (D XJ)) (hAB:LM (D Wz))
 (hF:ZP (D Acn)) (hT:VN (D VW)):RN (Body D MK):=by
 intro h path vs tags key hh hb hv ht
 simp -implicitDefEqProofs
 refine Aa (hP path h hb hh) ?_
 have hr:=Rm (path:=path) hh
 unfold Q6
 generalize Bq path h=r at hr
 by_cases g1:r.2=true
 rotate_left
 ·simp -implicitDefEqProofs [g1,Gs]
 obtain⟨seen,ok⟩:=r
 obtain rfl:ok=true:=g1
 dsimp only at hr⊢
 simp -implicitDefEqProofs
 refine Aa (hC vs tags seen hv ht hr) ?_
 have ha:=Ajv (vs:=vs) (tags:=tags) hr
 unfold AfO
 generalize Bv vs tags seen=q at ha
 obtain⟨a,fine⟩:=q
 dsimp only at ha⊢
 by_cases g2:fine=true
 rotate_left
 ·simp -implicitDefEqProofs [g2,Gs]
 simp -implicitDefEqProofs [g2]
 refine Aa (hFi h a hh ha) ?_
 by_cases g3:FD h a=true
 rotate_left
 ·simp -implicitDefEqProofs [g3,Gs]
 simp -implicitDefEqProofs [g3]
 refine Aa (hHB h hh) ?_
 simp -implicitDefEqProofs
 refine Aa (hAB a ha) ?_
 simp -implicitDefEqProofs
 have hf:=hF key [Dp h,Cc a] 1 (Arv h a)
 simp -implicitDefEqProofs [PO,Jh]at hf
 refine Aa (hf) ?_
 generalize G9 key [Dp h,Cc a] 1=m
 by_cases g4:m=0
 ·simp -implicitDefEqProofs [g4,Gs]
 simp -implicitDefEqProofs [g4]
 refine Aa (hHB seen hr) ?_
 simp -implicitDefEqProofs [g4]
 refine Aa (hAB a ha) ?_
 simp -implicitDefEqProofs [g4]
 have hf2:=hF key [Dp seen,Cc a] 1 (Arv seen a)
 simp -implicitDefEqProofs [PO,Jh]at hf2
 refine Aa (hf2) ?_
 generalize G9 key [Dp seen,Cc a] 1=m2
 by_cases g5:m=m2
 rotate_left
 ·simp -implicitDefEqProofs [g4,g5,Gs]
 subst g5
 simp -implicitDefEqProofs [g4]
 refine Aa (hT a.exts ha.1) ?_
 simp -implicitDefEqProofs [g4]
def Aoz (h:Hello) (path:List Fa) (vs tags:List Int) (key:Int):Dm:=
 if(DI h path).2.2=true then⟨Q6 (DI h path).1 path vs tags key,(DI h path).2.1,RU h (DI h path).1⟩else⟨Gs,(DI h path).2.1,[]⟩
abbrev Ak5 (R:Rel):Prop:=∀(h:Hello) (path:List Fa) (vs tags:List Int) (key:Int),hB h→lnS KP path→vs.length≤4194304→tags.length≤4194304→
 R [arg (Cz h),.sl 1 4 path.length (path.flatMap Cm),.sl 1 1 vs.length (ints vs),.sl 1 1 tags.length (ints tags),I key] [] (.agg (Am (Aoz h path vs tags key))) []
theorem Atg (D:Dn) (hH:Rq (D Aah)) (hO:RN (D Abs)) (hG:Vi (D AcT)):Ak5 (Body D TY):=by
 intro h path vs tags key hh hb hv ht
 simp -implicitDefEqProofs
 refine Aa (hH h path hh hb) ?_
 have hr:=AtC (path:=path) hh
 unfold Aoz
 generalize DI h path=r at hr
 obtain⟨x,n,ok⟩:=r
 dsimp only at hr⊢
 by_cases g1:ok=true
 rotate_left
 ·simp -implicitDefEqProofs [g1,Gs]
 simp -implicitDefEqProofs [g1]
 refine Aa (hO x path vs tags key hr hb hv ht) ?_
 simp -implicitDefEqProofs
 refine Aa (hG h x hh hr) ?_
 simp -implicitDefEqProofs [g1]
end Go.Eng.T
