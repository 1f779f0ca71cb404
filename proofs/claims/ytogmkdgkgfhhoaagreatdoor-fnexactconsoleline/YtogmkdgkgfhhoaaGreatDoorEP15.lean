/- Own work: part 15 of the proof of FnExactConsoleLine. -/
import Derived.Test.YtogmkdgkgfhhoaaGreatDoorEP12
import Derived.Test.YtogmkdgkgfhhoaaGreatDoorEP13
import Derived.Test.YtogmkdgkgfhhoaaGreatDoorEP14
set_option linter.unusedSimpArgs false
set_option linter.unusedVariables false
namespace Go.Eng.T
set_option maxRecDepth 20000
abbrev InV (a b c:Int):Prop:=b<=a/\a<=c
def JF (xs:List Int) (j:Nat):Bool:=(List.range j).all fun i=>decide (InV (xs.getD i 0) 1 9)&&(decide (i=0)||decide (xs.getD (i-1) 0<xs.getD i 0))
theorem Qu (xs:List Int) (j:Nat):JF xs (j+1)=(JF xs j&&(decide (InV (xs.getD j 0) 1 9)&&(decide (j=0)||decide (xs.getD (j-1) 0<xs.getD j 0)))):=by
 unfold JF
 rw[List.range_succ,List.all_append]
 simp
theorem Adi {xs:List Int} {j:Nat} (h:j<xs.length) (hn:JF xs (j+1)=false):JF xs xs.length=false:=by
 have:∀n,JF xs (j+1+n)=false:=by
  intro n
  induction n with
  | zero=>exact hn
  | succ n ih=>rw[show j+1+(n+1)=(j+1+n)+1 by omega,Qu,ih];rfl
 have:=this (xs.length-(j+1))
 rwa [show j+1+(xs.length-(j+1))=xs.length by omega]at this
theorem VG {xs:List Int} {j:Nat} (h:j<xs.length):xs.getD j 0=xs[j]:=by simp[h]
def AQ (xs:List Int):Bool:=JF xs xs.length&&decide (0<xs.length)
variable (R:Rel)
abbrev Dr:Prop:=∀xs:List Int,xs.length<=maxLen->R [.sl 1 1 xs.length (ints xs)] [] (B (AQ xs)) []
variable (D:Dn)
theorem AaQ (hI:Vf (D 71)):Dr (Body D I6):=by
 intro xs hl
 unfold maxLen at hl
 simp -implicitDefEqProofs
 refine Ag (fun k s=>∃j,j+k=xs.length/\JF xs j=true/\s=⟨[.sl 1 1 xs.length (ints xs),.undef,.sc (.int .i64 j),.undef,.undef],[]⟩) ?_ xs.length _ ⟨0,by simp,by simp[JF],by simp⟩
 intro k s ⟨j,hj,hr,hs⟩
 subst hs
 by_cases hjn:j<xs.length
 ·have hw:=Cv (j:=j) (by omega)
  have hst:=Qu xs j
  rw[hr,Bool.true_and,VG hjn]at hst
  simp -implicitDefEqProofs [hjn]
  refine Aa (hI _ _ _) ?_
  by_cases h1:InV xs[j] 1 9
  rotate_left
  ·have e:AQ xs=false:=by unfold AQ;rw[Adi hjn (by rw[hst];simp[h1])];rfl
   simp -implicitDefEqProofs [h1,e]
  by_cases h0:j=0
  ·subst h0
   simp -implicitDefEqProofs [h1]
   exact⟨k-1,by omega,1,by omega,by rw[hst];simp[h1],by simpa using hw⟩
  ·have hw2:IntKind.i64.wrap ((j:Int)-1)=((j-1:Nat):Int):=by rw[Ad (by omega) (by omega)];omega
   have h2:(0:Int)<j:=by omega
   have h2':0<j:=by omega
   have h3:j-1<xs.length:=by omega
   rw[VG h3]at hst
   by_cases h4:xs[j-1]<xs[j]
   ·have h4':¬xs[j]<=xs[j-1]:=by omega
    simp -implicitDefEqProofs [h1,h2,h2',hw2,h3,hjn,h4']
    exact⟨k-1,by omega,j+1,by omega,by rw[hst];simp[h1,h0,h4],by simp[hw]⟩
   ·have e:AQ xs=false:=by unfold AQ;rw[Adi hjn (by rw[hst];simp[h1,h0,h4])];rfl
    have h4':xs[j]<=xs[j-1]:=by omega
    simp -implicitDefEqProofs [h1,h2,h2',hw2,h3,hjn,h4',e]
 ·obtain rfl:j=xs.length:=by omega
  have e:AQ xs=decide (0<xs.length):=by unfold AQ;rw[hr];rfl
  by_cases h5:0<xs.length
  ·have h5':(0:Int)<xs.length:=by omega
   simp -implicitDefEqProofs [e,h5,h5']
  ·have h5':¬(0:Int)<xs.length:=by omega
   simp -implicitDefEqProofs [e,h5,h5']
theorem AEf (hI:Vf (D 114)):Dr (Body D Aum):=by
 intro xs hl
 unfold maxLen at hl
 simp -implicitDefEqProofs
 refine Ag (fun k s=>∃j v2 v3,j+k=xs.length/\JF xs j=true/\s=⟨[.sl 1 1 xs.length (ints xs),.undef,v2,v3,.sl 1 1 xs.length (ints xs),.sc (.int .i64 xs.length),.sc (.int .i64 j),.undef,.undef],[]⟩) ?_ xs.length _ ⟨0,.undef,.undef,by simp,by simp[JF],by simp⟩
 intro k s ⟨j,v2,v3,hj,hr,hs⟩
 subst hs
 by_cases hjn:j<xs.length
 ·have hw:=Cv (j:=j) (by omega)
  have hst:=Qu xs j
  rw[hr,Bool.true_and,VG hjn]at hst
  simp -implicitDefEqProofs [hjn]
  refine Aa (hI _ _ _) ?_
  by_cases h1:InV xs[j] 1 9
  rotate_left
  ·have e:AQ xs=false:=by unfold AQ;rw[Adi hjn (by rw[hst];simp[h1])];rfl
   simp -implicitDefEqProofs [h1,e]
  by_cases h0:j=0
  ·subst h0
   simp -implicitDefEqProofs [h1]
   exact⟨k-1,by omega,1,by omega,by rw[hst];simp[h1],by simpa using hw⟩
  ·have hw2:IntKind.i64.wrap ((j:Int)-1)=((j-1:Nat):Int):=by rw[Ad (by omega) (by omega)];omega
   have h2:(0:Int)<j:=by omega
   have h2':0<j:=by omega
   have h3:j-1<xs.length:=by omega
   rw[VG h3]at hst
   by_cases h4:xs[j-1]<xs[j]
   ·have h4':¬xs[j]<=xs[j-1]:=by omega
    simp -implicitDefEqProofs [h1,h2,h2',hw2,h3,hjn,h4']
    exact⟨k-1,by omega,j+1,by omega,by rw[hst];simp[h1,h0,h4],by simp[hw]⟩
   ·have e:AQ xs=false:=by unfold AQ;rw[Adi hjn (by rw[hst];simp[h1,h0,h4])];rfl
    have h4':xs[j]<=xs[j-1]:=by omega
    simp -implicitDefEqProofs [h1,h2,h2',hw2,h3,hjn,h4',e]
 ·obtain rfl:j=xs.length:=by omega
  have e:AQ xs=decide (0<xs.length):=by unfold AQ;rw[hr];rfl
  by_cases h5:0<xs.length
  ·have h5':(0:Int)<xs.length:=by omega
   simp -implicitDefEqProofs [e,h5,h5']
  ·have h5':¬(0:Int)<xs.length:=by omega
   simp -implicitDefEqProofs [e,h5,h5']
theorem LD {p:Int->Bool} {xs:List Int} {j:Nat} (h:j<xs.length):(xs.take (j+1)).filter p=(xs.take j).filter p++(if p xs[j]then [xs[j]]else []):=by
 have e:xs.take (j+1)=xs.take j++ [xs[j]]:=by simp
 rw[e,List.filter_append]
 by_cases hp:p xs[j]=true<;>simp[hp]
theorem N7 {p:Int->Bool} {xs:List Int} {j:Nat} (h:xs.length<=j):(xs.take j).filter p=xs.filter p:=by rw[List.take_of_length_le h]
theorem Oa {p:Int->Bool} {xs:List Int} {j:Nat}:((xs.take j).filter p).length<=j:=by
 have:=List.length_filter_le p (xs.take j)
 have h2:(xs.take j).length<=j:=by simp;omega
 omega
def common (a b:List Int):List Int:=a.filter fun v=>decide (v∈b)
def Co (a:List Int) (v:Int):List Int:=a.filter fun x=> !decide (x=v)
abbrev Rz:Prop:=∀a b:List Int,a.length<=4194304->b.length<=maxLen->R [.sl 1 1 a.length (ints a),.sl 1 1 b.length (ints b)] [] (.sl 0 1 (common a b).length (ints (common a b))) []
abbrev Ic:Prop:=∀(a:List Int) (v:Int),a.length<=4194304->R [.sl 1 1 a.length (ints a),I v] [] (.sl 0 1 (Co a v).length (ints (Co a v))) []
abbrev Aw5:Prop:=∀(a:List Int) (v:Int),a.length<=4194304->R [.sl 1 1 a.length (ints a),.sl 1 1 1 (ints [v])] [] (.sl 0 1 (Co a v).length (ints (Co a v))) []
theorem AgF (hH:UQ (D 166)):Rz (Body D Mc):=by
 intro a b ha hb'
 have hres:common a b=a.filter (fun v=>decide (v∈b)):=rfl
 rw[hres]
 simp -implicitDefEqProofs
 refine Ag (fun k s=>∃j o1 o2,j+k=a.length/\s=⟨[.sl 1 1 a.length (ints a),.sl 1 1 b.length (ints b),.undef,.arr 3,.sc (.int .i64 j),.undef,.undef],[.free,o1,o2,.arr 1 0 ((a.take j).filter (fun v=>decide (v∈b))).length (ints ((a.take j).filter (fun v=>decide (v∈b))))]⟩) ?_ a.length _ ⟨0,by simp⟩
 intro k s ⟨j,o1,o2,hj,hs⟩
 subst hs
 by_cases hjn:j<a.length
 ·have hw:=Cv (j:=j) (by omega)
  have hst:=LD (p:=fun v=>decide (v∈b)) hjn
  have hln:=Oa (p:=fun v=>decide (v∈b)) (xs:=a) (j:=j)
  have hb:(((a.take j).filter (fun v=>decide (v∈b))).length+1)*8<=1099511627776:=by omega
  simp -implicitDefEqProofs [hjn]
  refine Aa (hH b _ hb') ?_
  by_cases h1:a[j]∈b
  ·rw[if_pos (by simp[h1])]at hst
   simp -implicitDefEqProofs [h1,hjn,hb]
   exact⟨k-1,by omega,j+1,by omega,by simp[hw],by rw[hst];simp,by rw[hst]⟩
  ·rw[if_neg (by simp[h1]),List.append_nil]at hst
   simp -implicitDefEqProofs [h1,hjn,hb]
   exact⟨k-1,by omega,j+1,by omega,by simp[hw],by rw[hst],by rw[hst]⟩
 ·have hx:=N7 (p:=fun v=>decide (v∈b)) (xs:=a) (j:=j) (by omega)
  simp -implicitDefEqProofs [hjn,hx]
theorem AHB (hH:UQ (D 188)):Rz (Body D Awg):=by
 intro a b ha hb'
 have hres:common a b=a.filter (fun v=>decide (v∈b)):=rfl
 rw[hres]
 simp -implicitDefEqProofs
 refine Ag (fun k s=>∃j v4 o1 o2,j+k=a.length/\s=⟨[.undef,.sl 1 1 b.length (ints b),.undef,.arr 3,v4,.sl 1 1 a.length (ints a),.sc (.int .i64 a.length),.sc (.int .i64 j),.undef,.undef],[.free,o1,o2,.arr 1 0 ((a.take j).filter (fun v=>decide (v∈b))).length (ints ((a.take j).filter (fun v=>decide (v∈b))))]⟩) ?_ a.length _ ⟨0,by simp⟩
 intro k s ⟨j,v4,o1,o2,hj,hs⟩
 subst hs
 by_cases hjn:j<a.length
 ·have hw:=Cv (j:=j) (by omega)
  have hst:=LD (p:=fun v=>decide (v∈b)) hjn
  have hln:=Oa (p:=fun v=>decide (v∈b)) (xs:=a) (j:=j)
  have hb:(((a.take j).filter (fun v=>decide (v∈b))).length+1)*8<=1099511627776:=by omega
  simp -implicitDefEqProofs [hjn]
  refine Aa (hH b _ hb') ?_
  by_cases h1:a[j]∈b
  ·rw[if_pos (by simp[h1])]at hst
   simp -implicitDefEqProofs [h1,hjn,hb]
   exact⟨k-1,by omega,j+1,by omega,by simp[hw],by rw[hst];simp,by rw[hst]⟩
  ·rw[if_neg (by simp[h1]),List.append_nil]at hst
   simp -implicitDefEqProofs [h1,hjn,hb]
   exact⟨k-1,by omega,j+1,by omega,by simp[hw],by rw[hst],by rw[hst]⟩
 ·have hx:=N7 (p:=fun v=>decide (v∈b)) (xs:=a) (j:=j) (by omega)
  simp -implicitDefEqProofs [hjn,hx]
theorem Ad0:Ic (Body D Jy):=by
 intro a v ha
 have hres:Co a v=a.filter (fun x=> !decide (x=v)):=rfl
 rw[hres]
 simp -implicitDefEqProofs
 refine Ag (fun k s=>∃j o1 o2,j+k=a.length/\s=⟨[.sl 1 1 a.length (ints a),.sc (.int .i64 v),.undef,.arr 3,.sc (.int .i64 j),.undef,.undef],[.free,o1,o2,.arr 1 0 ((a.take j).filter (fun x=> !decide (x=v))).length (ints ((a.take j).filter (fun x=> !decide (x=v))))]⟩) ?_ a.length _ ⟨0,by simp⟩
 intro k s ⟨j,o1,o2,hj,hs⟩
 subst hs
 by_cases hjn:j<a.length
 ·have hw:=Cv (j:=j) (by omega)
  have hst:=LD (p:=fun x=> !decide (x=v)) hjn
  have hln:=Oa (p:=fun x=> !decide (x=v)) (xs:=a) (j:=j)
  have hb:(((a.take j).filter (fun x=> !decide (x=v))).length+1)*8<=1099511627776:=by omega
  simp -implicitDefEqProofs [hjn]
  by_cases h1:a[j]=v
  ·rw[if_neg (by simp[h1]),List.append_nil]at hst
   simp -implicitDefEqProofs [h1,hjn,hb]
   exact⟨k-1,by omega,j+1,by omega,by simp[hw],by rw[hst],by rw[hst]⟩
  ·rw[if_pos (by simp[h1])]at hst
   simp -implicitDefEqProofs [h1,hjn,hb]
   exact⟨k-1,by omega,j+1,by omega,by simp[hw],by rw[hst];simp,by rw[hst]⟩
 ·have hx:=N7 (p:=fun x=> !decide (x=v)) (xs:=a) (j:=j) (by omega)
  simp -implicitDefEqProofs [hjn,hx]
theorem AJl (hH:UQ (D 188)):Aw5 (Body D AtM):=by
 intro a v ha
 have hres:Co a v=a.filter (fun x=> !decide (x=v)):=rfl
 rw[hres]
 simp -implicitDefEqProofs
 refine Ag (fun k s=>∃j v4 o1 o2,j+k=a.length/\s=⟨[.undef,.sl 1 1 1 (ints [v]),.undef,.arr 3,v4,.sl 1 1 a.length (ints a),.sc (.int .i64 a.length),.sc (.int .i64 j),.undef,.undef],[.free,o1,o2,.arr 1 0 ((a.take j).filter (fun x=> !decide (x=v))).length (ints ((a.take j).filter (fun x=> !decide (x=v))))]⟩) ?_ a.length _ ⟨0,by simp⟩
 intro k s ⟨j,v4,o1,o2,hj,hs⟩
 subst hs
 by_cases hjn:j<a.length
 ·have hw:=Cv (j:=j) (by omega)
  have hst:=LD (p:=fun x=> !decide (x=v)) hjn
  have hln:=Oa (p:=fun x=> !decide (x=v)) (xs:=a) (j:=j)
  have hb:(((a.take j).filter (fun x=> !decide (x=v))).length+1)*8<=1099511627776:=by omega
  simp -implicitDefEqProofs [hjn]
  refine Aa (hH [v] _ (by unfold maxLen;simp)) ?_
  by_cases h1:a[j]=v
  ·rw[if_neg (by simp[h1]),List.append_nil]at hst
   simp -implicitDefEqProofs [h1,hjn,hb]
   exact⟨k-1,by omega,j+1,by omega,by simp[hw],by rw[hst],by rw[hst]⟩
  ·rw[if_pos (by simp[h1])]at hst
   simp -implicitDefEqProofs [h1,hjn,hb]
   exact⟨k-1,by omega,j+1,by omega,by simp[hw],by rw[hst];simp,by rw[hst]⟩
 ·have hx:=N7 (p:=fun x=> !decide (x=v)) (xs:=a) (j:=j) (by omega)
  simp -implicitDefEqProofs [hjn,hx]
def hB (h:Hello):Prop:=h.versions.length<=4194304/\OD h.exts
def Dt (h:Hello):Bool:=AQ h.versions&&Ej h.exts
abbrev Gr:Prop:=∀h:Hello,hB h->R [arg (Ck h)] [] (B (Dt h)) []
theorem Aip (hA:Dr (D 208)) (hE:JX (D 312)):Gr (Body D Nq):=by
 intro h hh
 simp -implicitDefEqProofs
 refine Aa (hA _ (by have:=hh.1;unfold maxLen;omega)) ?_
 by_cases h1:AQ h.versions=true
 rotate_left
 ·simp -implicitDefEqProofs [h1,Dt]
 simp -implicitDefEqProofs [h1]
 refine Aa (hE _ hh.2) ?_
 simp -implicitDefEqProofs [h1,Dt]
theorem AH4 (hA:Dr (D 232)) (hE:JX (D 320)):Gr (Body D AwM):=by
 intro h hh
 simp -implicitDefEqProofs
 refine Aa (hA _ (by have:=hh.1;unfold maxLen;omega)) ?_
 by_cases h1:AQ h.versions=true
 rotate_left
 ·simp -implicitDefEqProofs [h1,Dt]
 simp -implicitDefEqProofs [h1]
 refine Aa (hE _ hh.2) ?_
 simp -implicitDefEqProofs [h1,Dt]
abbrev Q9:Prop:=∀h:Hello,hB h->R [arg (Ck h)] [] (.agg (Ck h)) []
theorem AG3 (hE:U5 (D 318)):Q9 (Body D AvD):=by
 intro h hh
 have h1:h.versions.length*8<=1099511627776:=by have:=hh.1;omega
 simp -implicitDefEqProofs [h1]
 refine Aa (hE _ hh.2) ?_
 simp -implicitDefEqProofs
theorem Ah2 (hE:U5 (D 311)):Q9 (Body D MB):=by
 intro h hh
 have h1:h.versions.length*8<=1099511627776:=by have:=hh.1;omega
 simp -implicitDefEqProofs [h1]
 refine Aa (hE _ hh.2) ?_
 simp -implicitDefEqProofs
def lossy (b:EG) (x:Ext):Bool:=decide (x.tag∈b.drops)||(b.lists&&(!decide (x.tag∈b.strips)&& !decide (M6 x.tag 1 3)))
def Aoa (vs:List Int):Int:=vs.getLastD 0
def PK (b:EG) (h:Hello):Bool:=(decide (0<b.limit)&&decide (b.limit<Aoa h.versions))||h.exts.any (lossy b)
def stays (b:EG) (t:Int):Bool:= !decide (t∈b.strips)
def AU:Hello:=⟨[],[]⟩
def BV (b:EG) (h:Hello):Hello×Bool:=if IL b&&(Dt h&& !PK b h)then(⟨h.versions,kept (stays b) h.exts⟩,true)else(AU,false)
abbrev Vm:Prop:=∀(b:EG) (h:Hello),Kh b->hB h->R [arg (DT b),arg (Ck h)] [] (.tup [.agg (Ck (BV b h).1),B (BV b h).2]) []
theorem ZT {xs:List Int} (h:AQ xs=true):0<xs.length:=by
 unfold AQ at h
 simp only[Bool.and_eq_true,decide_eq_true_eq]at h
 exact h.2
theorem Ao7 {xs:List Int} (h:xs.length-1<xs.length):Aoa xs=xs[xs.length-1]:=by
 unfold Aoa
 rw[List.getLastD_eq_getLast?,List.getLast?_eq_getElem?,List.getElem?_eq_getElem h];rfl
theorem Ai4 (hX:XD (D 152)) (hE:Gr (D 285)) (hH:UQ (D 166)) (hI:Vf (D 71)):Vm (Body D Nv):=by
 intro b h hb hh
 obtain⟨hv,hx⟩:=hh
 have hll:=hx.1
 simp -implicitDefEqProofs
 refine Aa (hX b hb) ?_
 by_cases h1:IL b=true
 rotate_left
 ·simp -implicitDefEqProofs [h1,BV,AU]
 simp -implicitDefEqProofs [h1]
 refine Aa (hE h ⟨hv,hx⟩) ?_
 by_cases h2:Dt h=true
 rotate_left
 ·simp -implicitDefEqProofs [h2,BV,AU]
 have hpos:0<h.versions.length:=ZT (by unfold Dt at h2;simp only[Bool.and_eq_true]at h2;exact h2.1)
 have hn1:h.versions.length-1<h.versions.length:=by omega
 have hw1:IntKind.i64.wrap ((h.versions.length:Int)-1)=((h.versions.length-1:Nat):Int):=by rw[Ad (by omega) (by omega)];omega
 have htop:=Ao7 hn1
 by_cases h3:0<b.limit
 ·by_cases h4:b.limit<h.versions[h.versions.length-1]
  ·have e:BV b h=(AU,false):=by simp[BV,PK,htop,h3,h4]
   simp -implicitDefEqProofs [h2,h3,hw1,hn1,hpos,h4,e,AU]
  ·have h3':b.limit<Aoa h.versions↔False:=by rw[htop];simpa using h4
   have b0:h.versions.length*8<=1099511627776:=by omega
   simp -implicitDefEqProofs [h2,h3,hw1,hn1,hpos,h4,b0]
   refine Ag (fun k s=>∃j v8 o6 o7 o8 o9,j+k=h.exts.length/\(h.exts.take j).any (lossy b)=false/\s=⟨[.undef,.undef,.ptr 0 0,.ptr 1 0,.ptr 2 0,.undef,.ptr 5 0,I j,v8,.undef,.undef,.undef,.undef,.undef],[.var ((DT b).map (AO 1)),.var ((Ck h).map (AO 1)),.var [.nil 1,.nil 2],.dead,.arr 1 0 h.versions.length (ints h.versions),.var [.arr 4,.arr 10],o6,o7,o8,o9,.arr 2 0 (kept (stays b) (h.exts.take j)).length ((kept (stays b) (h.exts.take j)).flatMap Cc)]⟩) ?_ (h.exts.length) _ ⟨0,.undef,.free,.free,.free,.free,by simp,by simp,by simp[kept]⟩
   intro k s ⟨j,v8,o6,o7,o8,o9,hj,hp,hs⟩
   subst hs
   by_cases hjn:j<h.exts.length
   ·have hw:=Cv (j:=j) (by omega)
    have hbd:=P5 hx hjn
    have b1:h.exts[j].body.length*8<=1099511627776:=by omega
    have hkl:=Rl (p:=stays b) (l:=h.exts) (j:=j)
    have b2:((kept (stays b) (h.exts.take j)).length+1)*32<=1099511627776:=by omega
    have hst:=Abh (p:=lossy b) hjn
    rw[hp,Bool.false_or]at hst
    simp -implicitDefEqProofs [hjn]
    refine Aa (hH _ _ hb.2) ?_
    simp -implicitDefEqProofs
    refine Aa (hH _ _ hb.1) ?_
    by_cases g1:h.exts[j].tag∈b.drops
    ·have e:BV b h=(AU,false):=by
      have:=QR (p:=lossy b) hjn (by simp[lossy,g1])
      simp[BV,PK,this]
     simp -implicitDefEqProofs [g1,e,AU]
    by_cases g2:h.exts[j].tag∈b.strips
    ·have hl:lossy b h.exts[j]=false:=by simp[lossy,g1,g2]
     have hk:=RG (p:=stays b) hjn (by simp[stays,g2])
     by_cases g3:b.lists=true
     ·simp -implicitDefEqProofs [g1,g2,g3]
      exact⟨k-1,by omega,j+1,by omega,by simpa using hst.trans hl,by simp[hw],by rw[hk],by rw[hk]⟩
     ·simp -implicitDefEqProofs [g1,g2,g3]
      exact⟨k-1,by omega,j+1,by omega,by simpa using hst.trans hl,by simp[hw],by rw[hk],by rw[hk]⟩
    have hk:=NZ (p:=stays b) hjn (by simp[stays,g2])
    have hkl:=G7 (p:=stays b) hjn (by simp[stays,g2])
    by_cases g3:b.lists=true
    rotate_left
    ·have hl:lossy b h.exts[j]=false:=by simp[lossy,g1,g2,g3]
     simp -implicitDefEqProofs [g1,g2,g3,hjn,b1,b2]
     exact⟨k-1,by omega,j+1,by omega,by simpa using hst.trans hl,by simp[hw],by rw[hkl],by rw[<-hk]⟩
    simp -implicitDefEqProofs [g1,g2,g3]
    refine Aa (hI _ _ _) ?_
    by_cases g4:M6 h.exts[j].tag 1 3
    ·have hl:lossy b h.exts[j]=false:=by simp[lossy,g1,g2,g3,g4]
     simp -implicitDefEqProofs [g4,hjn,b1,b2]
     exact⟨k-1,by omega,j+1,by omega,by simpa using hst.trans hl,by simp[hw],by rw[hkl],by rw[<-hk]⟩
    ·have e:BV b h=(AU,false):=by
      have:=QR (p:=lossy b) hjn (by simp[lossy,g1,g2,g3,g4])
      simp[BV,PK,this]
     simp -implicitDefEqProofs [g4,e,AU]
   ·have hje:j=h.exts.length:=by omega
    have ea:h.exts.any (lossy b)=false:=any_none (by omega) hp
    have ek:=Rq (p:=stays b) (l:=h.exts) (j:=j) (by omega)
    have e:BV b h=(⟨h.versions,kept (stays b) h.exts⟩,true):=by simp only[BV,h1,h2,PK,ea,h3'];simp
    simp -implicitDefEqProofs [hjn,e,ek]
 ·have b0:h.versions.length*8<=1099511627776:=by omega
  simp -implicitDefEqProofs [h2,h3,b0]
  refine Ag (fun k s=>∃j v8 o6 o7 o8 o9,j+k=h.exts.length/\(h.exts.take j).any (lossy b)=false/\s=⟨[.undef,.undef,.ptr 0 0,.ptr 1 0,.ptr 2 0,.undef,.ptr 5 0,I j,v8,.undef,.undef,.undef,.undef,.undef],[.var ((DT b).map (AO 1)),.var ((Ck h).map (AO 1)),.var [.nil 1,.nil 2],.dead,.arr 1 0 h.versions.length (ints h.versions),.var [.arr 4,.arr 10],o6,o7,o8,o9,.arr 2 0 (kept (stays b) (h.exts.take j)).length ((kept (stays b) (h.exts.take j)).flatMap Cc)]⟩) ?_ (h.exts.length) _ ⟨0,.undef,.free,.free,.free,.free,by simp,by simp,by simp[kept]⟩
  intro k s ⟨j,v8,o6,o7,o8,o9,hj,hp,hs⟩
  subst hs
  by_cases hjn:j<h.exts.length
  ·have hw:=Cv (j:=j) (by omega)
   have hbd:=P5 hx hjn
   have b1:h.exts[j].body.length*8<=1099511627776:=by omega
   have hkl:=Rl (p:=stays b) (l:=h.exts) (j:=j)
   have b2:((kept (stays b) (h.exts.take j)).length+1)*32<=1099511627776:=by omega
   have hst:=Abh (p:=lossy b) hjn
   rw[hp,Bool.false_or]at hst
   simp -implicitDefEqProofs [hjn]
   refine Aa (hH _ _ hb.2) ?_
   simp -implicitDefEqProofs
   refine Aa (hH _ _ hb.1) ?_
   by_cases g1:h.exts[j].tag∈b.drops
   ·have e:BV b h=(AU,false):=by
     have:=QR (p:=lossy b) hjn (by simp[lossy,g1])
     simp[BV,PK,this]
    simp -implicitDefEqProofs [g1,e,AU]
   by_cases g2:h.exts[j].tag∈b.strips
   ·have hl:lossy b h.exts[j]=false:=by simp[lossy,g1,g2]
    have hk:=RG (p:=stays b) hjn (by simp[stays,g2])
    by_cases g3:b.lists=true
    ·simp -implicitDefEqProofs [g1,g2,g3]
     exact⟨k-1,by omega,j+1,by omega,by simpa using hst.trans hl,by simp[hw],by rw[hk],by rw[hk]⟩
    ·simp -implicitDefEqProofs [g1,g2,g3]
     exact⟨k-1,by omega,j+1,by omega,by simpa using hst.trans hl,by simp[hw],by rw[hk],by rw[hk]⟩
   have hk:=NZ (p:=stays b) hjn (by simp[stays,g2])
   have hkl:=G7 (p:=stays b) hjn (by simp[stays,g2])
   by_cases g3:b.lists=true
   rotate_left
   ·have hl:lossy b h.exts[j]=false:=by simp[lossy,g1,g2,g3]
    simp -implicitDefEqProofs [g1,g2,g3,hjn,b1,b2]
    exact⟨k-1,by omega,j+1,by omega,by simpa using hst.trans hl,by simp[hw],by rw[hkl],by rw[<-hk]⟩
   simp -implicitDefEqProofs [g1,g2,g3]
   refine Aa (hI _ _ _) ?_
   by_cases g4:M6 h.exts[j].tag 1 3
   ·have hl:lossy b h.exts[j]=false:=by simp[lossy,g1,g2,g3,g4]
    simp -implicitDefEqProofs [g4,hjn,b1,b2]
    exact⟨k-1,by omega,j+1,by omega,by simpa using hst.trans hl,by simp[hw],by rw[hkl],by rw[<-hk]⟩
   ·have e:BV b h=(AU,false):=by
     have:=QR (p:=lossy b) hjn (by simp[lossy,g1,g2,g3,g4])
     simp[BV,PK,this]
    simp -implicitDefEqProofs [g4,e,AU]
  ·have hje:j=h.exts.length:=by omega
   have ea:h.exts.any (lossy b)=false:=any_none (by omega) hp
   have ek:=Rq (p:=stays b) (l:=h.exts) (j:=j) (by omega)
   have e:BV b h=(⟨h.versions,kept (stays b) h.exts⟩,true):=by simp only[BV,h1,h2,PK,ea,h3];simp
   simp -implicitDefEqProofs [hjn,e,ek]
abbrev AyQ:Prop:=∀(t:Int) (b:EG),Kh b->R [I t,.rptr 1 (DT b) 0] [] (B (stays b t)) []
theorem AH3 (hH:UQ (D 188)):AyQ (Body D Avq):=by
 intro t b hb
 simp -implicitDefEqProofs
 refine Aa (hH b.strips t hb.2) ?_
 simp -implicitDefEqProofs [stays]
abbrev AC7:Prop:=∀(x:Ext) (b:EG),Kh b->R [arg (Cc x),.rptr 1 (DT b) 0] [] (B (lossy b x)) []
theorem AKh (hH:UQ (D 188)) (hI:Vf (D 114)):AC7 (Body D AwI):=by
 intro x b hb
 simp -implicitDefEqProofs
 refine Aa (hH b.drops x.tag hb.1) ?_
 by_cases g1:x.tag∈b.drops
 ·simp -implicitDefEqProofs [g1,lossy]
 by_cases g3:b.lists=true
 rotate_left
 ·simp -implicitDefEqProofs [g1,g3,lossy]
 simp -implicitDefEqProofs [g1,g3]
 refine Aa (hH b.strips x.tag hb.2) ?_
 by_cases g2:x.tag∈b.strips
 ·simp -implicitDefEqProofs [g1,g2,g3,lossy]
 simp -implicitDefEqProofs [g2]
 refine Aa (hI _ _ _) ?_
 simp -implicitDefEqProofs [g1,g2,g3,lossy]
def AKX (xs:List Int):Int:=xs.foldl max (xs.headD 0)
abbrev AK8:Prop:=∀xs:List Int,0<xs.length->xs.length<=4194304->R [.sl 1 1 xs.length (ints xs)] [] (I (AKX xs)) []
abbrev AIh:Prop:=∀xs:List Int,xs.length<=4194304->R [.sl 1 1 xs.length (ints xs)] [] (.sl 0 1 xs.length (ints xs)) []
abbrev AFW:Prop:=∀(b:EG) (h:Hello),Kh b->hB h->IL b=true->AQ h.versions=true->R [arg (DT b),arg (Ck h)] [] (B (PK b h)) []
theorem AA5:∀(xs:List Int) (a:Int),(∀x,x∈xs->a<=x)->(∀i,(h:i+1<xs.length)->xs[i]<=xs[i+1])->xs.foldl max a=(xs.getLast?.getD a)
 | [],a,_,_=>rfl
 | x::r,a,h1,h2=>by
  have hx:=h1 x (by simp)
  have hr:∀y,y∈r->x<=y:=by
   intro y hy
   obtain⟨n,hn,rfl⟩:=List.getElem_of_mem hy
   have key:∀m,(hm:m<r.length)->x<=r[m]:=by
    intro m
    induction m with
    | zero=>intro hm;have:=h2 0 (by simp;omega);simpa using this
    | succ m ih=>
     intro hm
     have h3:=ih (by omega)
     have:=h2 (m+1) (by simp;omega)
     simp only[List.getElem_cons_succ]at this
     omega
   exact key n hn
  have ih:=AA5 r x hr (fun i h=>by have:=h2 (i+1) (by simp;omega);simpa using this)
  simp only[List.foldl_cons]
  rw[show max a x=x by omega,ih]
  cases r with
  | nil=>rfl
  | cons y s=>simp[List.getLast?_cons_cons,List.getLast?_cons]
theorem AFx {xs:List Int} (h:AQ xs=true) {i:Nat} (hi:i+1<xs.length):xs[i]<xs[i+1]:=by
 unfold AQ JF at h
 simp only[Bool.and_eq_true,List.all_eq_true,List.mem_range]at h
 have:=(h.1 (i+1) hi).2
 rw[VG hi,show i+1-1=i by omega,VG (by omega)]at this
 simpa using this
theorem AI6 {xs:List Int} (h:AQ xs=true):AKX xs=Aoa xs:=by
 cases xs with
 | nil=>rfl
 | cons x r=>
  unfold AKX Aoa
  simp only[List.headD_cons,List.foldl_cons]
  rw[show max x x=x by omega,AA5 r x ?_ ?_]
  ·cases r with
   | nil=>rfl
   | cons y s=>simp[List.getLastD_eq_getLast?,List.getLast?_cons_cons,List.getLast?_cons]
  ·intro y hy
   obtain⟨n,hn,rfl⟩:=List.getElem_of_mem hy
   induction n with
   | zero=>have:=AFx h (i:=0) (by simp;omega);simp at this;omega
   | succ m ih=>
    have h3:=ih (by omega) (List.getElem_mem _)
    have:=AFx h (i:=m+1) (by simp;omega)
    simp only[List.getElem_cons_succ]at this
    omega
  ·intro i hi
   have:=AFx h (i:=i+1) (by simp;omega)
   simp only[List.getElem_cons_succ]at this
   omega
theorem AyM {b:EG} {r:List V} (h:Atz r):Atz (.rptr 1 (DT b) 0::r):=AzW (fun H=>by simp) (fun H=>by simp) h
theorem AKS (hM:AK8 (D 325)) (h1:AC7 (D 326)) (hC:Atu D (D 327)):AFW (Body D Aya):=by
 intro b h hb hh hbox hver
 obtain⟨hv,hx⟩:=hh
 have hll:=hx.1
 have hpos:=ZT hver
 have hlim:0<=b.limit:=by unfold IL at hbox;simp only[Bool.and_eq_true,decide_eq_true_eq]at hbox;exact hbox.1.1.1.1.1
 by_cases h0:b.limit=0
 ·obtain⟨lim,dr,st,li⟩:=b
  dsimp only at h0
  subst h0
  simp -implicitDefEqProofs
  refine Aa (hC h.exts 326 _ (lossy ⟨0,dr,st,li⟩) (by unfold maxLen;omega) (AyM (b:=⟨0,dr,st,li⟩) Api) (fun j hj=>h1 h.exts[j] ⟨0,dr,st,li⟩ hb)) ?_
  simp -implicitDefEqProofs [PK]
 ·have hn:0<b.limit:=by omega
  simp -implicitDefEqProofs [h0]
  refine Aa (hM h.versions hpos hv) ?_
  rw[AI6 hver]
  by_cases h4:b.limit<Aoa h.versions
  ·simp -implicitDefEqProofs [h0,h4,PK,hn]
  ·simp -implicitDefEqProofs [h0,h4]
   refine Aa (hC h.exts 326 _ (lossy b) (by unfold maxLen;omega) (AyM Api) (fun j hj=>h1 h.exts[j] b hb)) ?_
   simp -implicitDefEqProofs [PK,hn,h4]
theorem AH8 (hX:XD (D 183)) (hE:Gr (D 292)) (hL:AFW (D 295)) (hC:AIh (D 296)) (h1':AyQ (D 297)) (hK:At9 D (D 298)):Vm (Body D AwK):=by
 intro b h hb hh
 simp -implicitDefEqProofs
 refine Aa (hX b hb) ?_
 by_cases h1:IL b=true
 rotate_left
 ·simp -implicitDefEqProofs [h1,BV,AU]
 simp -implicitDefEqProofs [h1]
 refine Aa (hE h hh) ?_
 by_cases h2:Dt h=true
 rotate_left
 ·simp -implicitDefEqProofs [h2,BV,AU]
 have hver:AQ h.versions=true:=by unfold Dt at h2;simp only[Bool.and_eq_true]at h2;exact h2.1
 simp -implicitDefEqProofs [h2]
 refine Aa (hL b h hb hh h1 hver) ?_
 by_cases h3:PK b h=true
 ·simp -implicitDefEqProofs [h3,BV,AU]
 have e:BV b h=(⟨h.versions,kept (stays b) h.exts⟩,true):=by simp[BV,h1,h2,h3]
 simp -implicitDefEqProofs [h3]
 refine Aa (hC h.versions hh.1) ?_
 simp -implicitDefEqProofs
 refine Aa (hK h.exts 297 _ (stays b) hh.2 (AyM Api) (AzJ Atd) (fun t=>h1' t b hb)) ?_
 simp -implicitDefEqProofs [e]
def Gd:List EG->Hello->Hello×Bool
 | [],h=>(h,true)
 | b::r,h=>if(BV b h).2=true then Gd r (BV b h).1 else(AU,false)
theorem AfO {path:List EG} {j:Nat} {x:Hello} (h:j<path.length):Gd (path.drop j) x=if(BV path[j] x).2=true then Gd (path.drop (j+1)) (BV path[j] x).1 else(AU,false):=by
 rw[List.drop_eq_getElem_cons h];rfl
theorem Aid {path:List EG} {j:Nat} {x:Hello} (h:path.length<=j):Gd (path.drop j) x=(x,true):=by rw[List.drop_eq_nil_of_le h];rfl
def Bd (path:List EG) (h:Hello):Hello×Bool:=if decide (path.length<=4)&&Dt h then Gd path h else(AU,false)
theorem Aba:hB AU:=⟨by simp[AU],Afg⟩
theorem Ajy {b:EG} {h:Hello} (hh:hB h):hB (BV b h).1:=by
 unfold BV
 split
 ·exact⟨hh.1,QV hh.2 _⟩
 ·exact Aba
theorem AHP {b:EG} {h:Hello} (hk:(BV b h).2=false):(BV b h).1=AU:=by
 unfold BV at *
 split at hk
 ·cases hk
 ·rename_i hc;rw[if_neg hc]
abbrev Jj:Prop:=∀(path:List EG) (h:Hello),lnS Kh path->hB h->R [.sl 1 4 path.length (path.flatMap DT),arg (Ck h)] [] (.tup [.agg (Ck (Bd path h).1),B (Bd path h).2]) []
theorem Ahg (hE:Gr (D 285)) (hC:Q9 (D 301)) (hP:Vm (D 258)):Jj (Body D Mk):=by
 intro path h hb hh
 have hl:=hb.1
 unfold maxLen at hl
 by_cases h1:path.length<=4
 rotate_left
 ·have h1':(4:Int)<path.length:=by omega
  simp -implicitDefEqProofs [h1',h1,Bd,AU]
 have h1':¬(4:Int)<path.length:=by omega
 simp -implicitDefEqProofs [h1']
 refine Aa (hE h hh) ?_
 by_cases h2:Dt h=true
 rotate_left
 ·simp -implicitDefEqProofs [h2,h1,Bd,AU]
 have e:Bd path h=Gd path h:=by simp[Bd,h1,h2]
 rw[e]
 simp -implicitDefEqProofs [h2]
 refine Aa (hC h hh) ?_
 simp -implicitDefEqProofs
 refine Ag (fun k s=>∃j x o5 o6 o7,j+k=path.length/\hB x/\Gd path h=Gd (path.drop j) x/\s=⟨[.sl 1 4 path.length (path.flatMap DT),.undef,.undef,.ptr 1 0,.undef,.ptr 4 0,I j,.undef,.undef,.undef,.undef,.undef],[.var ((Ck h).map (AO 1)),.var [.nil 1,.nil 2],.free,.free,.var [.arr 8,.arr 9],o5,o6,o7,.arr 1 0 x.versions.length (ints x.versions),.arr 2 0 x.exts.length (x.exts.flatMap Cc)]⟩) ?_ (path.length) _ ⟨0,h,.free,.free,.free,by simp,hh,by simp,by simp⟩
 intro k s ⟨j,x,o5,o6,o7,hj,hx,hg,hs⟩
 subst hs
 by_cases hjn:j<path.length
 ·have hw:=Cv (j:=j) (by omega)
  rw[AfO hjn]at hg
  simp -implicitDefEqProofs [hjn]
  refine Aa (hP path[j] x (hb.2 j hjn) hx) ?_
  have hx':=Ajy (b:=path[j]) hx
  generalize BV path[j] x=r at hg hx'
  by_cases hk:r.2=true
  ·rw[if_pos hk]at hg
   simp -implicitDefEqProofs [hk]
   refine⟨k-1,by omega,j+1,by omega,r.1,hx',?_⟩
   simp[hw,hg]
  ·rw[if_neg hk]at hg
   simp -implicitDefEqProofs [hk,hg,AU]
 ·rw[Aid (by omega)]at hg
  simp -implicitDefEqProofs [hjn,hg]
theorem AGG (hE:Gr (D 292)) (hC:Q9 (D 293)) (hP:Vm (D 294)):Jj (Body D Awk):=by
 intro path h hb hh
 have hl:=hb.1
 unfold maxLen at hl
 simp -implicitDefEqProofs
 refine Aa (hE h hh) ?_
 by_cases h2:Dt h=true
 rotate_left
 ·simp -implicitDefEqProofs [h2,Bd,AU]
 by_cases h1:path.length<=4
 rotate_left
 ·have h1':(4:Int)<path.length:=by omega
  simp -implicitDefEqProofs [h2,h1',h1,Bd,AU]
 have h1':¬(4:Int)<path.length:=by omega
 have e:Bd path h=Gd path h:=by simp[Bd,h1,h2]
 rw[e]
 simp -implicitDefEqProofs [h2,h1']
 refine Aa (hC h hh) ?_
 simp -implicitDefEqProofs
 refine Ag (fun k s=>∃j x ok o5 o6,j+k=path.length/\hB x/\Gd path h=(if ok=true then Gd (path.drop j) x else(AU,false))/\(ok=false->x=AU)/\s=⟨[.sl 1 4 path.length (path.flatMap DT),.undef,.undef,.ptr 1 0,.undef,.ptr 4 0,B ok,I j,.undef,.undef],[.var ((Ck h).map (AO 1)),.var [.nil 1,.nil 2],.free,.free,.var [.arr 7,.arr 8],o5,o6,.arr 1 0 x.versions.length (ints x.versions),.arr 2 0 x.exts.length (x.exts.flatMap Cc)]⟩) ?_ (path.length) _ ⟨0,h,true,.free,.free,by simp,hh,by simp,by simp,by simp⟩
 intro k s ⟨j,x,ok,o5,o6,hj,hx,hg,hno,hs⟩
 subst hs
 by_cases hok:ok=true
 rotate_left
 ·rw[if_neg hok]at hg
  have hok':ok=false:=by simpa using hok
  have hno':=hno hok'
  subst hok'
  subst hno'
  by_cases hjn:j<path.length
  ·simp -implicitDefEqProofs [hjn,hg,AU]
  ·simp -implicitDefEqProofs [hjn,hg,AU]
 rw[if_pos hok]at hg
 subst hok
 by_cases hjn:j<path.length
 ·have hw:=Cv (j:=j) (by omega)
  rw[AfO hjn]at hg
  simp -implicitDefEqProofs [hjn]
  refine Aa (hP path[j] x (hb.2 j hjn) hx) ?_
  have hx':=Ajy (b:=path[j]) hx
  have hno':=AHP (b:=path[j]) (h:=x)
  generalize BV path[j] x=r at hg hx' hno'
  simp -implicitDefEqProofs
  refine⟨k-1,by omega,j+1,by omega,r.1,hx',?_⟩
  simp[hw,hg,hno']
  by_cases hr:r.2=true
  ·right;exact⟨fun h=>by simp[hr]at h,hr⟩
  ·left;exact⟨fun h=>absurd h hr,hno' (by simpa using hr),by simpa using hr⟩
 ·rw[Aid (by omega)]at hg
  simp -implicitDefEqProofs [hjn,hg]
def Aon (b:EG):Bool:=decide (b.limit=0)&&(decide (b.drops.length=0)&&(decide (b.strips.length=0)&& !b.lists))
abbrev AAU:Prop:=∀b:EG,Kh b->R [arg (DT b)] [] (B (Aon b)) []
theorem APi {b:EG} (h:Aon b=true):IL b=true:=by
 unfold Aon at h
 simp only[Bool.and_eq_true,decide_eq_true_eq]at h
 obtain⟨h1,h2,h3,_⟩:=h
 have h2':=List.eq_nil_of_length_eq_zero h2
 have h3':=List.eq_nil_of_length_eq_zero h3
 simp[IL,h1,h2',h3',allIn]
theorem AIx:AAU (Body D AwT):=by
 intro b hb
 by_cases g1:b.limit=0
 rotate_left
 ·simp -implicitDefEqProofs [g1,Aon,Aqs]
 by_cases g2:b.drops.length=0
 rotate_left
 ·have g2':¬(b.drops.length:Int)=0:=by omega
  simp -implicitDefEqProofs [g1,g2,g2',Aon,Aqs]
 have g2':(b.drops.length:Int)=0:=by omega
 by_cases g3:b.strips.length=0
 rotate_left
 ·have g3':¬(b.strips.length:Int)=0:=by omega
  simp -implicitDefEqProofs [g1,g2,g2',g3,g3',Aon,Aqs]
 have g3':(b.strips.length:Int)=0:=by omega
 simp -implicitDefEqProofs [g1,g2,g2',g3,g3',Aon,Aqs]
theorem AO4 (hX:XD (D 152)):AAU (Body D AMf):=by
 intro b hb
 simp -implicitDefEqProofs
 refine Aa (hX b hb) ?_
 by_cases h1:IL b=true
 rotate_left
 ·have e:Aon b=false:=by
   by_cases h:Aon b=true
   ·exact absurd (APi h) h1
   ·simpa using h
  simp -implicitDefEqProofs [h1,e]
 by_cases g1:b.limit=0
 rotate_left
 ·simp -implicitDefEqProofs [g1,Aon,h1,Aqs]
 by_cases g2:b.drops.length=0
 rotate_left
 ·have g2':¬(b.drops.length:Int)=0:=by omega
  simp -implicitDefEqProofs [g1,g2,g2',Aon,h1,Aqs]
 have g2':(b.drops.length:Int)=0:=by omega
 by_cases g3:b.strips.length=0
 rotate_left
 ·have g3':¬(b.strips.length:Int)=0:=by omega
  simp -implicitDefEqProofs [g1,g2,g2',g3,g3',Aon,h1,Aqs]
 have g3':(b.strips.length:Int)=0:=by omega
 simp -implicitDefEqProofs [g1,g2,g2',g3,g3',Aon,h1,Aqs]
def AfS (path:List EG):Bool:=decide (path.length<=4)&&path.all Aon
abbrev AvU:Prop:=∀path:List EG,lnS Kh path->R [.sl 1 4 path.length (path.flatMap DT)] [] (B (AfS path)) []
theorem NP {α:Type} {p:α->Bool} {xs:List α} {j:Nat} (h:j<xs.length) (hp:p xs[j]=false):xs.all p=false:=List.all_eq_false.2 ⟨_,List.getElem_mem h,by simp[hp]⟩
theorem Qm {α:Type} {p:α->Bool} {xs:List α} {j:Nat} (h:j<xs.length):(xs.take (j+1)).all p=((xs.take j).all p&&p xs[j]):=by
 have e:xs.take (j+1)=xs.take j++ [xs[j]]:=by simp
 rw[e,List.all_append];simp
theorem VW {α:Type} {p:α->Bool} {xs:List α} {j:Nat} (h:xs.length<=j):(xs.take j).all p=xs.all p:=by rw[List.take_of_length_le h]
theorem ANJ (hC:AAU (D 259)):AvU (Body D AHD):=by
 intro path hb
 have hl:=hb.1
 unfold maxLen at hl
 simp -implicitDefEqProofs
 refine Ag (fun k s=>∃j,j+k=path.length/\(path.take j).all Aon=true/\s=⟨[.sl 1 4 path.length (path.flatMap DT),.undef,I j,.undef,.undef],[]⟩) ?_ (path.length) _ ⟨0,by simp,by simp,by simp⟩
 intro k s ⟨j,hj,hp,hs⟩
 subst hs
 by_cases hjn:j<path.length
 ·have hw:=Cv (j:=j) (by omega)
  have hst:=Qm (p:=Aon) hjn
  rw[hp,Bool.true_and]at hst
  simp -implicitDefEqProofs [hjn]
  refine Aa (hC path[j] (hb.2 j hjn)) ?_
  by_cases h1:Aon path[j]=true
  ·simp -implicitDefEqProofs [h1]
   exact⟨k-1,by omega,j+1,by omega,by simpa using hst.trans h1,by simp[hw]⟩
  ·have e:AfS path=false:=by unfold AfS;rw[NP hjn (by simpa using h1)];simp
   simp -implicitDefEqProofs [h1,e]
 ·have e:AfS path=decide (path.length<=4):=by unfold AfS;rw[<-VW (j:=j) (by omega),hp];simp
  by_cases h1:path.length<=4
  ·have h1':(path.length:Int)<=4:=by omega
   simp -implicitDefEqProofs [hjn,e,h1,h1']
  ·have h1':¬(path.length:Int)<=4:=by omega
   simp -implicitDefEqProofs [hjn,e,h1,h1']
abbrev Au7:Prop:=∀b:EG,Kh b->R [arg (DT b)] [] (B (!Aon b)) []
theorem AEd (hC:AAU (D 299)):Au7 (Body D AtG):=by
 intro b hb
 simp -implicitDefEqProofs
 refine Aa (hC b hb) ?_
 simp -implicitDefEqProofs
theorem ADh (h1:Au7 (D 278)) (hC:As3 D (D 272)):AvU (Body D Aul):=by
 intro path hb
 have hl:=hb.1
 by_cases g1:path.length<=4
 rotate_left
 ·have g1':¬(path.length:Int)<=4:=by omega
  simp -implicitDefEqProofs [g1',g1,AfS]
 have g1':(path.length:Int)<=4:=by omega
 simp -implicitDefEqProofs [g1']
 refine Aa (hC path 278 [] (fun b=> !Aon b) hl Api (fun j hj=>h1 path[j] (hb.2 j hj))) ?_
 have e:(path.any fun b=> !Aon b)= !path.all Aon:=by rw[List.all_eq_not_any_not];simp
 rw[e]
 generalize hq:path.all Aon=q
 simp -implicitDefEqProofs [AfS,g1,hq]
abbrev JZ:Prop:=∀xs:List Int,xs.length<=4194304->R [.sl 1 1 xs.length (ints xs)] [] (.agg (Ck ⟨xs,[]⟩)) []
theorem Ac8:JZ (Body D Jo):=by
 intro xs h
 have h1:xs.length*8<=1099511627776:=by omega
 simp -implicitDefEqProofs [h1]
theorem AEJ:JZ (Body D AuN):=by
 intro xs h
 have h1:xs.length*8<=1099511627776:=by omega
 simp -implicitDefEqProofs [h1]
def isOpen (path:List EG) (vs:List Int):Bool:=AQ vs&&(Bd path ⟨vs.take 1,[]⟩).2
abbrev J4:Prop:=∀(path:List EG) (vs:List Int),lnS Kh path->vs.length<=4194304->R [.sl 1 4 path.length (path.flatMap DT),.sl 1 1 vs.length (ints vs)] [] (B (isOpen path vs)) []
theorem AcL (hA:Dr (D 208)) (hH:JZ (D 256)) (hP:Jj (D 286)):J4 (Body D JD):=by
 intro path vs hb hv
 simp -implicitDefEqProofs
 refine Aa (hA vs (by unfold maxLen;omega)) ?_
 by_cases h1:AQ vs=true
 rotate_left
 ·simp -implicitDefEqProofs [h1,isOpen]
 have hpos:=ZT h1
 have h1l:(1:Int)<=vs.length:=by omega
 have h1n:1<=vs.length:=by omega
 have hlen:(vs.take 1).length=1:=by simp;omega
 have hmin:min 1 vs.length=1:=by omega
 simp -implicitDefEqProofs [h1,h1l,h1n]
 have hh:=hH (vs.take 1) (by omega)
 rw[hlen]at hh
 refine Aa (hh) ?_
 simp -implicitDefEqProofs [hmin]
 have hp:=hP path ⟨vs.take 1,[]⟩ hb ⟨by simp;omega,Afg⟩
 simp -implicitDefEqProofs [hmin]at hp
 refine Aa (hp) ?_
 simp -implicitDefEqProofs [isOpen,h1]
theorem AEI (hA:Dr (D 232)) (hH:JZ (D 273)) (hP:Jj (D 274)):J4 (Body D AuH):=by
 intro path vs hb hv
 simp -implicitDefEqProofs
 refine Aa (hA vs (by unfold maxLen;omega)) ?_
 by_cases h1:AQ vs=true
 rotate_left
 ·simp -implicitDefEqProofs [h1,isOpen]
 have hpos:=ZT h1
 have h1l:(1:Int)<=vs.length:=by omega
 have h1n:1<=vs.length:=by omega
 have hlen:(vs.take 1).length=1:=by simp;omega
 have hmin:min 1 vs.length=1:=by omega
 simp -implicitDefEqProofs [h1,h1l,h1n]
 have hh:=hH (vs.take 1) (by omega)
 rw[hlen]at hh
 refine Aa (hh) ?_
 simp -implicitDefEqProofs [hmin]
 have hp:=hP path ⟨vs.take 1,[]⟩ hb ⟨by simp;omega,Afg⟩
 simp -implicitDefEqProofs [hmin]at hp
 refine Aa (hp) ?_
 simp -implicitDefEqProofs [isOpen,h1]
def Q5 (path:List EG) (v:Int):Bool:= !(Bd path ⟨[v],[]⟩).2
def BZ (path:List EG) (vs:List Int):List Int:=if AQ vs=true then vs.filter (Q5 path)else []
abbrev JH:Prop:=∀(path:List EG) (vs:List Int),lnS Kh path->vs.length<=4194304->R [.sl 1 4 path.length (path.flatMap DT),.sl 1 1 vs.length (ints vs)] [] (.sl 0 1 (BZ path vs).length (ints (BZ path vs))) []
theorem AhL (path:List EG) (v:Int):isOpen path [v]= !Q5 path v:=by
 unfold isOpen Q5
 by_cases h:AQ [v]=true
 ·simp[h]
 ·have:Bd path ⟨[v],[]⟩=(AU,false):=by
   unfold Bd Dt
   have h':AQ [v]=false:=by simpa using h
   simp[h']
  simp[h,this]
theorem Zm (hA:Dr (D 208)) (hO:J4 (D 260)):JH (Body D H9):=by
 intro path vs hb hv
 by_cases h1:AQ vs=true
 rotate_left
 ·have e:BZ path vs=[]:=by unfold BZ;rw[if_neg h1]
  rw[e]
  simp -implicitDefEqProofs
  refine Ag (fun k s=>s=⟨[.sl 1 4 path.length (path.flatMap DT),.sl 1 1 vs.length (ints vs),.undef,.arr 3,I 0,.undef,.undef],[.free,.free,.free,.arr 1 0 0 (ints [])]⟩) ?_ 0 _ (by simp)
  intro k s hs
  subst hs
  by_cases h0:0<vs.length
  ·simp -implicitDefEqProofs [h0]
   refine Aa (hA vs (by unfold maxLen;omega)) ?_
   simp -implicitDefEqProofs [h1]
  ·simp -implicitDefEqProofs [h0]
 have e:BZ path vs=vs.filter (Q5 path):=by unfold BZ;rw[if_pos h1]
 rw[e]
 simp -implicitDefEqProofs
 refine Ag (fun k s=>∃j o1 o2,j+k=vs.length/\s=⟨[.sl 1 4 path.length (path.flatMap DT),.sl 1 1 vs.length (ints vs),.undef,.arr 3,I j,.undef,.undef],[.free,o1,o2,.arr 1 0 ((vs.take j).filter (Q5 path)).length (ints ((vs.take j).filter (Q5 path)))]⟩) ?_ (vs.length) _ ⟨0,.free,.free,by simp,by simp⟩
 intro k s ⟨j,o1,o2,hj,hs⟩
 subst hs
 by_cases hjn:j<vs.length
 ·have hw:=Cv (j:=j) (by omega)
  have hst:=LD (p:=Q5 path) hjn
  have hfl:=Oa (p:=Q5 path) (xs:=vs) (j:=j)
  have hb1:(((vs.take j).filter (Q5 path)).length+1)*8<=1099511627776:=by omega
  have hw1:IntKind.i64.wrap ((j:Int)+1)=(j:Int)+1:=Ad (by omega) (by omega)
  have hj1:j+1<=vs.length:=by omega
  have hj2:(j:Int)+1<=vs.length:=by omega
  have hdt:(vs.drop j).take 1=[vs[j]]:=by rw[List.drop_eq_getElem_cons hjn];rfl
  simp -implicitDefEqProofs [hjn]
  refine Aa (hA vs (by unfold maxLen;omega)) ?_
  have hjj:(j:Int)<=(j:Int)+1:=by omega
  have h11:j+1-j=1:=by omega
  simp -implicitDefEqProofs [h1,hw1,hj1,hj2,hdt,hjn,hjj,h11]
  refine Aa (hO path [vs[j]] hb (by simp)) ?_
  rw[AhL]
  by_cases h2:Q5 path vs[j]=true
  ·rw[if_pos h2]at hst
   simp -implicitDefEqProofs [h2,hjn,hb1]
   exact⟨k-1,by omega,j+1,by omega,by simp[hw],by rw[hst];simp,by rw[hst]⟩
  ·rw[if_neg h2,List.append_nil]at hst
   simp -implicitDefEqProofs [h2]
   exact⟨k-1,by omega,j+1,by omega,by simp[hw],by rw[hst],by rw[hst]⟩
 ·have e2:=N7 (p:=Q5 path) (xs:=vs) (j:=j) (by omega)
  simp -implicitDefEqProofs [hjn,e2]
theorem AB9 (hA:Dr (D 232)) (hH:JZ (D 273)) (hP:Jj (D 274)):JH (Body D AtU):=by
 intro path vs hb hv
 simp -implicitDefEqProofs
 refine Aa (hA vs (by unfold maxLen;omega)) ?_
 by_cases h1:AQ vs=true
 rotate_left
 ·have e:BZ path vs=[]:=by unfold BZ;rw[if_neg h1]
  rw[e]
  simp -implicitDefEqProofs [h1]
 have e:BZ path vs=vs.filter (Q5 path):=by unfold BZ;rw[if_pos h1]
 rw[e]
 simp -implicitDefEqProofs [h1]
 refine Ag (fun k s=>∃j v4 o1 o2 o3 o4 o5 o6 o7 o8,j+k=vs.length/\s=⟨[.sl 1 4 path.length (path.flatMap DT),.undef,.undef,.arr 9,v4,.undef,.undef,.sl 1 1 vs.length (ints vs),I vs.length,I j,.undef,.undef],[.free,o1,o2,o3,o4,o5,o6,o7,o8,.arr 1 0 ((vs.take j).filter (Q5 path)).length (ints ((vs.take j).filter (Q5 path)))]⟩) ?_ (vs.length) _ ⟨0,.undef,.free,.free,.free,.free,.free,.free,.free,.free,by simp,by simp⟩
 intro k s ⟨j,v4,o1,o2,o3,o4,o5,o6,o7,o8,hj,hs⟩
 subst hs
 by_cases hjn:j<vs.length
 ·have hw:=Cv (j:=j) (by omega)
  have hst:=LD (p:=Q5 path) hjn
  have hfl:=Oa (p:=Q5 path) (xs:=vs) (j:=j)
  have hb1:(((vs.take j).filter (Q5 path)).length+1)*8<=1099511627776:=by omega
  simp -implicitDefEqProofs [hjn]
  refine Aa (hH [vs[j]] (by simp)) ?_
  simp -implicitDefEqProofs
  refine Aa (hP path ⟨[vs[j]],[]⟩ hb ⟨by simp,Afg⟩) ?_
  have hq:Q5 path vs[j]= !(Bd path ⟨[vs[j]],[]⟩).2:=rfl
  generalize Bd path ⟨[vs[j]],[]⟩=r at hq
  by_cases h2:r.2=true
  ·have h3:¬Q5 path vs[j]=true:=by rw[hq,h2];simp
   rw[if_neg h3,List.append_nil]at hst
   simp -implicitDefEqProofs [h2]
   exact⟨k-1,by omega,j+1,by omega,by simp[hw],by rw[hst],by rw[hst]⟩
  ·have h3:Q5 path vs[j]=true:=by rw[hq];simpa using h2
   rw[if_pos h3]at hst
   simp -implicitDefEqProofs [h2,hb1]
   exact⟨k-1,by omega,j+1,by omega,by simp[hw],by rw[hst];simp,by rw[hst]⟩
 ·have e2:=N7 (p:=Q5 path) (xs:=vs) (j:=j) (by omega)
  simp -implicitDefEqProofs [hjn,e2]
set_option maxHeartbeats 1000000
def Sw (l:List Int):Int:=l.foldl (fun a v=>if v>a then v else a) 0
theorem Aew {x:Int}:∀(l:List Int) (a:Int),(∀y,y∈l->y<x)->a<x->l.foldl (fun a v=>if v>a then v else a) a<x
 | [],a,_,h=>h
 | y::l,a,hl,h=>by
  simp only[List.foldl_cons]
  refine Aew l _ (fun z hz=>hl z (by simp[hz])) ?_
  split
  ·exact hl y (by simp)
  ·exact h
theorem Aat {xs:List Int}:∀(n:Nat),JF xs n=true->∀i j,i<j->j<n->xs.getD i 0<xs.getD j 0
 | 0,_,i,j,_,h=>by omega
 | n+1,hr,i,j,hij,hj=>by
  rw[Qu]at hr
  simp only[Bool.and_eq_true,Bool.or_eq_true,decide_eq_true_eq]at hr
  obtain⟨h1,_,h3⟩:=hr
  by_cases hjn:j<n
  ·exact Aat n h1 i j hij hjn
  ·obtain rfl:j=n:=by omega
   have h4:xs.getD (j-1) 0<xs.getD j 0:=by
    rcases h3 with h3 | h3
    ·omega
    ·exact h3
   by_cases he:i=j-1
   ·rw[he];exact h4
   ·have:=Aat j h1 i (j-1) (by omega) (by omega)
    omega
theorem Amw {xs:List Int} {n i:Nat} (h:JF xs n=true) (hi:i<n):InV (xs.getD i 0) 1 9:=by
 unfold JF at h
 have:=List.all_eq_true.1 h i (List.mem_range.2 hi)
 simp at this
 exact⟨this.1.1,this.1.2⟩
theorem Ru {xs:List Int} (h:AQ xs=true):xs.Pairwise (· < ·):=by
 unfold AQ at h
 simp only[Bool.and_eq_true,decide_eq_true_eq]at h
 rw[List.pairwise_iff_getElem]
 intro i j hi hj hij
 have:=Aat _ h.1 i j hij hj
 rwa [VG hi,VG hj]at this
theorem RF {xs:List Int} (h:AQ xs=true):∀x,x∈xs->InV x 1 9:=by
 unfold AQ at h
 simp only[Bool.and_eq_true,decide_eq_true_eq]at h
 intro x hx
 obtain⟨i,hi,rfl⟩:=List.getElem_of_mem hx
 have:=Amw h.1 hi
 rwa [VG hi]at this
theorem Akj {l:List Int} (hp:l.Pairwise (· < ·)) (h0:∀x,x∈l->0<x) (hn:0<l.length):Sw l=l[l.length-1]:=by
 obtain⟨l',x,rfl⟩:∃l' x,l=l'++ [x]:=by
  rcases List.eq_nil_or_concat l with h | ⟨l',x,h⟩
  ·rw[h]at hn;simp at hn
  ·exact⟨l',x,by simpa using h⟩
 rw[List.pairwise_append]at hp
 have h1:Sw l' <x:=Aew l' 0 (fun y hy=>hp.2.2 y hy x (by simp)) (h0 x (by simp))
 have h2:Sw (l'++ [x])=if x>Sw l' then x else Sw l':=by unfold Sw;rw[List.foldl_append];rfl
 rw[h2,if_pos h1]
 simp
def AJ (a b:List Int):Int:=if AQ a=true/\AQ b=true then Sw (common a b)else 0
abbrev FQ:Prop:=∀a b:List Int,a.length<=4194304->b.length<=4194304->R [.sl 1 1 a.length (ints a),.sl 1 1 b.length (ints b)] [] (I (AJ a b)) []
theorem ml {n:Nat} (h:n<=4194304):n<=maxLen:=by unfold maxLen;omega
theorem Acp (hC:Rz (D 224)) (hA:Dr (D 208)):FQ (Body D Jf):=by
 intro a b ha hb
 have hcl:(common a b).length<=4194304:=Nat.le_trans (List.length_filter_le _ _) ha
 simp -implicitDefEqProofs
 refine Aa (hC a b ha (ml hb)) ?_
 simp -implicitDefEqProofs
 refine Aa (hA a (ml ha)) ?_
 by_cases h1:AQ a=true
 rotate_left
 ·simp -implicitDefEqProofs [h1,AJ]
 simp -implicitDefEqProofs [h1]
 refine Aa (hA b (ml hb)) ?_
 by_cases h2:AQ b=true
 rotate_left
 ·simp -implicitDefEqProofs [h2,AJ]
 have e:AJ a b=Sw (common a b):=by unfold AJ;rw[if_pos ⟨h1,h2⟩]
 rw[e]
 by_cases h3:common a b=[]
 ·simp -implicitDefEqProofs [h2,h3,Sw]
 have h4:0<(common a b).length:=List.length_pos_iff.2 h3
 have h5:=Akj (l:=common a b) ((Ru h1).filter _) (fun x hx=>by have:=RF h1 x (List.mem_filter.1 hx).1;omega) h4
 rw[h5]
 generalize common a b=l at h3 h4 hcl
 have hw:IntKind.i64.wrap ((l.length:Int)-1)=((l.length-1:Nat):Int):=by rw[Ad (by omega) (by omega)];omega
 have h6:l.length-1<l.length:=by omega
 simp -implicitDefEqProofs [h2,h3,hw,h6,h4]
theorem AEj (hC:Rz (D 242)) (hA:Dr (D 232)):FQ (Body D AuE):=by
 intro a b ha hb
 have hcl:(common a b).length<=4194304:=Nat.le_trans (List.length_filter_le _ _) ha
 simp -implicitDefEqProofs
 refine Aa (hA a (ml ha)) ?_
 by_cases h1:AQ a=true
 rotate_left
 ·simp -implicitDefEqProofs [h1,AJ]
 simp -implicitDefEqProofs [h1]
 refine Aa (hA b (ml hb)) ?_
 by_cases h2:AQ b=true
 rotate_left
 ·simp -implicitDefEqProofs [h2,AJ]
 have e:AJ a b=Sw (common a b):=by unfold AJ;rw[if_pos ⟨h1,h2⟩]
 rw[e]
 simp -implicitDefEqProofs [h2]
 refine Aa (hC a b ha (ml hb)) ?_
 generalize common a b=l at hcl
 simp -implicitDefEqProofs
 refine Ag (fun k s=>∃j,j+k=l.length/\s=⟨[.undef,.undef,.undef,.sc (.int .i64 (Sw (l.take j))),.undef,.undef,.arr 0,.sc (.int .i64 l.length),.sc (.int .i64 j),.undef],[.arr 1 0 l.length (ints l)]⟩) ?_ l.length _ ⟨0,by simp,by simp[Sw]⟩
 intro k s ⟨j,hj,hs⟩
 subst hs
 by_cases hjn:j<l.length
 ·have hw:=Cv (j:=j) (by omega)
  have hst:Sw (l.take (j+1))=if l[j]>Sw (l.take j)then l[j]else Sw (l.take j):=by
   have e:l.take (j+1)=l.take j++ [l[j]]:=by simp
   unfold Sw
   rw[e,List.foldl_append];rfl
  simp -implicitDefEqProofs [hjn]
  exact⟨k-1,by omega,j+1,by omega,by rw[hst],by simp[hw]⟩
 ·have hx:l.take j=l:=List.take_of_length_le (by omega)
  simp -implicitDefEqProofs [hjn,hx]
def Le {α:Type} (p:α->Bool):List α->Nat->List Int
 | [],_=> []
 | x::r,i=>if p x then(i:Int)::Le p r (i+1)else Le p r (i+1)
theorem XM {α:Type} {p:α->Bool} (b:List α):∀(a:List α) (i:Nat),Le p (a++b) i=Le p a i++Le p b (i+a.length)
 | [],i=>by simp[Le]
 | x::r,i=>by
  have:=XM (p:=p) b r (i+1)
  simp only[List.cons_append,Le,this,List.length_cons]
  rw[show i+1+r.length=i+(r.length+1)by omega]
  by_cases h:p x=true<;>simp[h]
theorem Alt {α:Type} {p:α->Bool} {xs:List α} {j:Nat} (h:j<xs.length):Le p (xs.take (j+1)) 0=Le p (xs.take j) 0++(if p xs[j]then [(j:Int)]else []):=by
 have e:xs.take (j+1)=xs.take j++ [xs[j]]:=by simp
 rw[e,XM]
 have hl:(xs.take j).length=j:=by simp;omega
 by_cases hp:p xs[j]=true<;>simp[Le,hp,hl]
theorem AmA {α:Type} {p:α->Bool} {xs:List α} {j:Nat} (h:xs.length<=j):Le p (xs.take j) 0=Le p xs 0:=by rw[List.take_of_length_le h]
theorem Af3 {α:Type} {p:α->Bool}:∀(xs:List α) (i:Nat),(Le p xs i).length<=xs.length
 | [],_=>by simp[Le]
 | x::r,i=>by
  have:=Af3 (p:=p) r (i+1)
  by_cases h:p x=true
  ·simp[Le,h];omega
  ·simp[Le,h];omega
def ABA (v:Int) (e:Ai):Bool:=decide (v∈e.versions)
theorem Aie {w:World} (h:Af w<=4194304) {j:Nat} (hj:j<w.ends.length):w.ends[j].versions.length<=maxLen:=by
 have:=size_at (f:=Am) hj
 have e:Am w.ends[j]=w.ends[j].versions.length+w.ends[j].tags.length+Cr Gm w.ends[j].path:=rfl
 unfold Af at h
 unfold maxLen;omega
abbrev Awv:Prop:=∀(w:World) (v:Int),Af w<=4194304->R [arg (Bu w),I v] [] (.sl 0 1 (Le (ABA v) w.ends 0).length (ints (Le (ABA v) w.ends 0))) []
theorem AN2 (hH:UQ (D 166)):Awv (Body D AKt):=by
 intro w v hsz
 have hl:=FE hsz
 simp -implicitDefEqProofs
 refine Ag (fun k s=>∃j o2 o3,j+k=w.ends.length/\s=⟨[.undef,.sc (.int .i64 v),.ptr 0 0,.undef,.arr 4,.sc (.int .i64 j),.undef,.undef],[.var ((Bu w).map (AO 1)),.free,o2,o3,.arr 1 0 (Le (ABA v) (w.ends.take j) 0).length (ints (Le (ABA v) (w.ends.take j) 0))]⟩) ?_ w.ends.length _ ⟨0,.free,.free,by simp,by simp[Le]⟩
 intro k s ⟨j,o2,o3,hj,hs⟩
 subst hs
 by_cases hjn:j<w.ends.length
 ·have hw:=Cv (j:=j) (by omega)
  have hst:=Alt (p:=ABA v) hjn
  have hln:=Af3 (p:=ABA v) (w.ends.take j) 0
  have htl:(w.ends.take j).length<=j:=by simp;omega
  simp -implicitDefEqProofs [hjn]
  refine Aa (hH w.ends[j].versions v (Aie hsz hjn)) ?_
  by_cases he:v∈w.ends[j].versions
  ·have hb:((Le (ABA v) (w.ends.take j) 0).length+1)*8<=1099511627776:=by omega
   rw[if_pos (by simp[ABA,he])]at hst
   simp -implicitDefEqProofs [he,hb]
   exact⟨k-1,by omega,j+1,by omega,by simp[hw],by rw[hst];simp,by rw[hst]⟩
  ·rw[if_neg (by simp[ABA,he]),List.append_nil]at hst
   simp -implicitDefEqProofs [he]
   exact⟨k-1,by omega,j+1,by omega,by simp[hw],by rw[hst],by rw[hst]⟩
 ·have hx:=AmA (p:=ABA v) (xs:=w.ends) (j:=j) (by omega)
  simp -implicitDefEqProofs [hjn,hx]
theorem AEu (hH:UQ (D 188)):Awv (Body D AuI):=by
 intro w v hsz
 have hl:=FE hsz
 simp -implicitDefEqProofs
 refine Ag (fun k s=>∃j v5 o2 o3 o4,j+k=w.ends.length/\s=⟨[.undef,.sc (.int .i64 v),.undef,.undef,.arr 5,v5,.undef,.sl 1 4 w.ends.length (w.ends.flatMap Ah),.sc (.int .i64 w.ends.length),.sc (.int .i64 j),.undef,.undef],[.var ((Bu w).map (AO 1)),.free,o2,o3,o4,.arr 1 0 (Le (ABA v) (w.ends.take j) 0).length (ints (Le (ABA v) (w.ends.take j) 0))]⟩) ?_ w.ends.length _ ⟨0,.undef,.free,.free,.free,by simp,by simp[Le]⟩
 intro k s ⟨j,v5,o2,o3,o4,hj,hs⟩
 subst hs
 by_cases hjn:j<w.ends.length
 ·have hw:=Cv (j:=j) (by omega)
  have hst:=Alt (p:=ABA v) hjn
  have hln:=Af3 (p:=ABA v) (w.ends.take j) 0
  have htl:(w.ends.take j).length<=j:=by simp;omega
  simp -implicitDefEqProofs [hjn]
  refine Aa (hH w.ends[j].versions v (Aie hsz hjn)) ?_
  by_cases he:v∈w.ends[j].versions
  ·have hb:((Le (ABA v) (w.ends.take j) 0).length+1)*8<=1099511627776:=by omega
   rw[if_pos (by simp[ABA,he])]at hst
   simp -implicitDefEqProofs [he,hb]
   exact⟨k-1,by omega,j+1,by omega,by simp[hw],by rw[hst];simp,by rw[hst]⟩
  ·rw[if_neg (by simp[ABA,he]),List.append_nil]at hst
   simp -implicitDefEqProofs [he]
   exact⟨k-1,by omega,j+1,by omega,by simp[hw],by rw[hst],by rw[hst]⟩
 ·have hx:=AmA (p:=ABA v) (xs:=w.ends) (j:=j) (by omega)
  simp -implicitDefEqProofs [hjn,hx]
set_option maxHeartbeats 1000000
def I8 (xs:List (List Int)):List V:=xs.map fun l=> .sl 0 1 l.length (ints l)
@[simp high] theorem Aro (xs:List (List Int)):(I8 xs).length=xs.length:=by simp[I8]
@[simp] theorem Ard:I8 []=[]:=rfl
@[simp] theorem ArA (xs:List (List Int)):(I8 xs).map (AO 0)=I8 xs:=by simp[I8,Function.comp_def,AO]
@[simp high] theorem ArI {xs:List (List Int)} {j:Nat} (h:j<xs.length):(I8 xs)[j]? =some (V.sl 0 1 xs[j].length (ints xs[j])):=by simp[I8,h]
theorem Ah1 (xs:List (List Int)) (l:List Int) {n:Nat} (h:n=l.length):I8 xs++ [.sl 0 1 n (ints l)]=I8 (xs++ [l]):=by subst h;simp[I8]
def GR (xs:List (List Int)):Nat:=Cr List.length xs
theorem Uz {xs:List (List Int)} {j:Nat} (h:j<xs.length):xs[j].length<=GR xs:=size_at (f:=List.length) h
theorem Ms {xs:List (List Int)}:xs.length<=GR xs:=J9
def Fh (w:World):List (List Int):=w.ends.map (·.versions)
abbrev Q8:Prop:=∀w:World,Af w<=4194304->R [arg (Bu w)] [] (.sl 0 1 (Fh w).length (I8 (Fh w))) []
theorem Aih {xs:List Ai} {j:Nat} (h:j<xs.length):I8 ((xs.map (·.versions)).take j)++ [.sl 0 1 xs[j].versions.length (ints xs[j].versions)]=I8 ((xs.map (·.versions)).take (j+1)):=by
 have h':j<(xs.map (·.versions)).length:=by simpa using h
 have e:(xs.map (·.versions)).take (j+1)=(xs.map (·.versions)).take j++ [xs[j].versions]:=by
  have:=List.take_append_getElem h'
  rw[<-this];simp
 rw[e,Ah1 _ _ rfl]
theorem AhN:Q8 (Body D NK):=by
 intro w h
 have hl:=FE h
 have hres:Fh w=w.ends.map (·.versions):=rfl
 rw[hres]
 simp -implicitDefEqProofs
 refine Ag (fun k s=>∃j o2 o3 o4 o5,j+k=w.ends.length/\s=⟨[.undef,.ptr 0 0,.undef,.arr 6,.sc (.int .i64 j),.undef],[.var ((Bu w).map (AO 1)),.free,o2,o3,o4,o5,.arr 1 0 j (I8 ((w.ends.take j).map (·.versions)))]⟩) ?_ w.ends.length _ ⟨0,.free,.free,.free,.free,by simp,by simp⟩
 intro k s ⟨j,o2,o3,o4,o5,hj,hs⟩
 subst hs
 by_cases hjn:j<w.ends.length
 ·have hw:=Cv (j:=j) (by omega)
  have hst:=Aih hjn
  have hvl:=Aie h hjn
  unfold maxLen at hvl
  have h2:w.ends[j].versions.length<=4194304:=by
   have:=size_at (f:=Am) hjn
   have e:Am w.ends[j]=w.ends[j].versions.length+w.ends[j].tags.length+Cr Gm w.ends[j].path:=rfl
   unfold Af at h
   omega
  have hb:w.ends[j].versions.length*8<=1099511627776:=by omega
  have hb2:(j+1)*24<=1099511627776:=by omega
  have hjl:min j w.ends.length=j:=by omega
  simp -implicitDefEqProofs [hjn,hb,hb2,hjl]
  exact⟨k-1,by omega,j+1,by omega,by simp[hw],rfl,hst⟩
 ·obtain rfl:j=w.ends.length:=by omega
  simp -implicitDefEqProofs
theorem AHS:Q8 (Body D AwD):=by
 intro w h
 have hl:=FE h
 have hres:Fh w=w.ends.map (·.versions):=rfl
 rw[hres]
 simp -implicitDefEqProofs
 refine Ag (fun k s=>∃j o2 o3 o4 o5 o6,j+k=w.ends.length/\s=⟨[.undef,.undef,.undef,.arr 7,.undef,.sl 1 4 w.ends.length (w.ends.flatMap Ah),.sc (.int .i64 w.ends.length),.sc (.int .i64 j),.undef],[.var ((Bu w).map (AO 1)),.free,o2,o3,o4,o5,o6,.arr 1 0 j (I8 ((w.ends.take j).map (·.versions)))]⟩) ?_ w.ends.length _ ⟨0,.free,.free,.free,.free,.free,by simp,by simp⟩
 intro k s ⟨j,o2,o3,o4,o5,o6,hj,hs⟩
 subst hs
 by_cases hjn:j<w.ends.length
 ·have hw:=Cv (j:=j) (by omega)
  have hst:=Aih hjn
  have h2:w.ends[j].versions.length<=4194304:=by
   have:=size_at (f:=Am) hjn
   have e:Am w.ends[j]=w.ends[j].versions.length+w.ends[j].tags.length+Cr Gm w.ends[j].path:=rfl
   unfold Af at h
   omega
  have hb:w.ends[j].versions.length*8<=1099511627776:=by omega
  have hb2:(j+1)*24<=1099511627776:=by omega
  have hjl:min j w.ends.length=j:=by omega
  simp -implicitDefEqProofs [hjn,hb,hb2,hjl]
  exact⟨k-1,by omega,j+1,by omega,by simp[hw],rfl,hst⟩
 ·obtain rfl:j=w.ends.length:=by omega
  simp -implicitDefEqProofs
abbrev KZ (ls:List (List Int)):V:= .sl 1 1 ls.length (I8 ls)
def Aaa (s:List Int) (v:Int) (l:List Int):Bool:=decide (AJ s l=v)
def SN (s:List Int) (ls:List (List Int)) (v:Int):Nat:=if 1<=v then cntF (Aaa s v) ls else 0
abbrev Ae1:Prop:=∀(s:List Int) (ls:List (List Int)) (v:Int),s.length<=4194304->GR ls<=4194304->R [.sl 1 1 s.length (ints s),KZ ls,I v] [] (I (SN s ls v)) []
theorem Anj (hB:FQ (D 168)):Ae1 (Body D Ra):=by
 intro s ls v hs0 hl
 have hll:=Ms (xs:=ls)
 by_cases hv:1<=v
 rotate_left
 ·have e:SN s ls v=0:=by unfold SN;rw[if_neg hv]
  simp -implicitDefEqProofs [e]
  refine Ag (fun k st=>st=⟨[.sl 1 1 s.length (ints s),KZ ls,I v,.undef,.sc (.int .i64 0),.sc (.int .i64 0),.undef,.undef],[]⟩) ?_ 0 _ (by simp)
  intro k st hs
  subst hs
  by_cases h0:0<ls.length
  ·have h0':(0:Int)<ls.length:=by omega
   simp -implicitDefEqProofs [hv,h0,h0']
  ·have h0':¬(0:Int)<ls.length:=by omega
   simp -implicitDefEqProofs [hv,h0,h0']
 have e:SN s ls v=cntF (Aaa s v) ls:=by unfold SN;rw[if_pos hv]
 rw[e]
 simp -implicitDefEqProofs
 refine Ag (fun k st=>∃j,j+k=ls.length/\st=⟨[.sl 1 1 s.length (ints s),KZ ls,I v,.undef,.sc (.int .i64 (cntF (Aaa s v) (ls.take j))),.sc (.int .i64 j),.undef,.undef],[]⟩) ?_ ls.length _ ⟨0,by simp,by simp[cntF]⟩
 intro k st ⟨j,hj,hs⟩
 subst hs
 by_cases hjn:j<ls.length
 ·have hw:=Cv (j:=j) (by omega)
  have hc:=AaP (f:=Aaa s v) hjn
  have hcl:=Afa (f:=Aaa s v) (xs:=ls) (j:=j) (by omega)
  have hw2:IntKind.i64.wrap ((cntF (Aaa s v) (ls.take j):Int)+1)=(cntF (Aaa s v) (ls.take j)+1:Nat):=by rw[Ad (by omega) (by omega)];simp
  have hra:=Uz hjn
  simp -implicitDefEqProofs [hjn,hv]
  refine Aa (hB s _ hs0 (by omega)) ?_
  by_cases he:AJ s ls[j]=v
  ·simp -implicitDefEqProofs [he]
   exact⟨k-1,by omega,j+1,by omega,by rw[hc,hw2];simp[Aaa,he],by simp[hw]⟩
  ·simp -implicitDefEqProofs [he]
   exact⟨k-1,by omega,j+1,by omega,by rw[hc];simp[Aaa,he],by simp[hw]⟩
 ·have hx:=Afj (f:=Aaa s v) (xs:=ls) (j:=j) (by omega)
  simp -implicitDefEqProofs [hjn,hx]
theorem AKj (hB:FQ (D 190)):Ae1 (Body D AyD):=by
 intro s ls v hs0 hl
 have hll:=Ms (xs:=ls)
 by_cases hv:1<=v
 rotate_left
 ·have e:SN s ls v=0:=by unfold SN;rw[if_neg hv]
  have hv':v<1:=by omega
  simp -implicitDefEqProofs [e,hv']
 have e:SN s ls v=cntF (Aaa s v) ls:=by unfold SN;rw[if_pos hv]
 have hv':¬v<1:=by omega
 rw[e]
 simp -implicitDefEqProofs [hv']
 refine Ag (fun k st=>∃j,j+k=ls.length/\st=⟨[.sl 1 1 s.length (ints s),.undef,I v,.undef,.sc (.int .i64 (cntF (Aaa s v) (ls.take j))),.undef,.undef,KZ ls,.sc (.int .i64 ls.length),.sc (.int .i64 j),.undef,.undef],[]⟩) ?_ ls.length _ ⟨0,by simp,by simp[cntF]⟩
 intro k st ⟨j,hj,hs⟩
 subst hs
 by_cases hjn:j<ls.length
 ·have hw:=Cv (j:=j) (by omega)
  have hc:=AaP (f:=Aaa s v) hjn
  have hcl:=Afa (f:=Aaa s v) (xs:=ls) (j:=j) (by omega)
  have hw2:IntKind.i64.wrap ((cntF (Aaa s v) (ls.take j):Int)+1)=(cntF (Aaa s v) (ls.take j)+1:Nat):=by rw[Ad (by omega) (by omega)];simp
  have hra:=Uz hjn
  simp -implicitDefEqProofs [hjn,hv]
  refine Aa (hB s _ hs0 (by omega)) ?_
  by_cases he:AJ s ls[j]=v
  ·simp -implicitDefEqProofs [he]
   exact⟨k-1,by omega,j+1,by omega,by rw[hc,hw2];simp[Aaa,he],by simp[hw]⟩
  ·simp -implicitDefEqProofs [he]
   exact⟨k-1,by omega,j+1,by omega,by rw[hc];simp[Aaa,he],by simp[hw]⟩
 ·have hx:=Afj (f:=Aaa s v) (xs:=ls) (j:=j) (by omega)
  simp -implicitDefEqProofs [hjn,hx]
def Zk (s:List Int) (v:Int) (l:List Int):Bool:=decide (0<AJ s l)&&decide (AJ (Co s v) l=0)
def Kj (s:List Int) (ls:List (List Int)) (v:Int):List Int:=Le (Zk s v) ls 0
abbrev Ry:Prop:=∀(s:List Int) (ls:List (List Int)) (v:Int),s.length<=4194304->GR ls<=4194304->R [.sl 1 1 s.length (ints s),KZ ls,I v] [] (.sl 0 1 (Kj s ls v).length (ints (Kj s ls v))) []
theorem Ahm (hB:FQ (D 168)) (hW:Ic (D 167)):Ry (Body D L8):=by
 intro s ls v hs0 hl
 have hll:=Ms (xs:=ls)
 have hres:Kj s ls v=Le (Zk s v) ls 0:=rfl
 have hwl:=List.length_filter_le (fun x=> !decide (x=v)) s
 rw[hres]
 simp -implicitDefEqProofs
 refine Aa (hW s v hs0) ?_
 simp -implicitDefEqProofs
 refine Ag (fun k st=>∃j o2 o3,j+k=ls.length/\st=⟨[.sl 1 1 s.length (ints s),KZ ls,.undef,.undef,.arr 4,.arr 1,.sc (.int .i64 j),.undef,.undef],[.free,.arr 1 0 (Co s v).length (ints (Co s v)),o2,o3,.arr 1 0 (Le (Zk s v) (ls.take j) 0).length (ints (Le (Zk s v) (ls.take j) 0))]⟩) ?_ ls.length _ ⟨0,.free,.free,by simp,by simp[Le]⟩
 intro k st ⟨j,o2,o3,hj,hs⟩
 subst hs
 by_cases hjn:j<ls.length
 ·have hw:=Cv (j:=j) (by omega)
  have hst:=Alt (p:=Zk s v) hjn
  have hln:=Af3 (p:=Zk s v) (ls.take j) 0
  have htl:(ls.take j).length<=j:=by simp;omega
  have hb:((Le (Zk s v) (ls.take j) 0).length+1)*8<=1099511627776:=by omega
  have hra:=Uz hjn
  simp -implicitDefEqProofs [hjn]
  refine Aa (hB s _ hs0 (by omega)) ?_
  by_cases h1:0<AJ s ls[j]
  rotate_left
  ·rw[if_neg (by simp[Zk,h1]),List.append_nil]at hst
   simp -implicitDefEqProofs [h1]
   exact⟨k-1,by omega,j+1,by omega,by simp[hw],by rw[hst],by rw[hst]⟩
  simp -implicitDefEqProofs [h1,hjn]
  refine Aa (hB (Co s v) ls[j] (by unfold Co;omega) (by omega)) ?_
  by_cases h2:AJ (Co s v) ls[j]=0
  ·rw[if_pos (by simp[Zk,h1,h2])]at hst
   simp -implicitDefEqProofs [h2,hb]
   exact⟨k-1,by omega,j+1,by omega,by simp[hw],by rw[hst];simp,by rw[hst]⟩
  ·rw[if_neg (by simp[Zk,h1,h2]),List.append_nil]at hst
   simp -implicitDefEqProofs [h2]
   exact⟨k-1,by omega,j+1,by omega,by simp[hw],by rw[hst],by rw[hst]⟩
 ·have hx:=AmA (p:=Zk s v) (xs:=ls) (j:=j) (by omega)
  simp -implicitDefEqProofs [hjn,hx]
theorem AGE (hB:FQ (D 190)) (hW:Aw5 (D 189)):Ry (Body D Awj):=by
 intro s ls v hs0 hl
 have hll:=Ms (xs:=ls)
 have hres:Kj s ls v=Le (Zk s v) ls 0:=rfl
 have hwl:=List.length_filter_le (fun x=> !decide (x=v)) s
 rw[hres]
 simp -implicitDefEqProofs
 refine Aa (hW s v hs0) ?_
 simp -implicitDefEqProofs
 refine Ag (fun k st=>∃j v6 v7 o1 o3 o4,j+k=ls.length/\st=⟨[.sl 1 1 s.length (ints s),.undef,.undef,.undef,.arr 5,.arr 2,v6,v7,KZ ls,.sc (.int .i64 ls.length),.sc (.int .i64 j),.undef,.undef],[.free,o1,.arr 1 0 (Co s v).length (ints (Co s v)),o3,o4,.arr 1 0 (Le (Zk s v) (ls.take j) 0).length (ints (Le (Zk s v) (ls.take j) 0))]⟩) ?_ ls.length _ ⟨0,.undef,.undef,.arr 1 0 1 [.sc (.int .i64 v)],.free,.free,by simp,by simp[Le]⟩
 intro k st ⟨j,v6,v7,o1,o3,o4,hj,hs⟩
 subst hs
 by_cases hjn:j<ls.length
 ·have hw:=Cv (j:=j) (by omega)
  have hst:=Alt (p:=Zk s v) hjn
  have hln:=Af3 (p:=Zk s v) (ls.take j) 0
  have htl:(ls.take j).length<=j:=by simp;omega
  have hb:((Le (Zk s v) (ls.take j) 0).length+1)*8<=1099511627776:=by omega
  have hra:=Uz hjn
  simp -implicitDefEqProofs [hjn]
  refine Aa (hB s _ hs0 (by omega)) ?_
  by_cases h1:0<AJ s ls[j]
  rotate_left
  ·rw[if_neg (by simp[Zk,h1]),List.append_nil]at hst
   simp -implicitDefEqProofs [h1]
   exact⟨k-1,by omega,j+1,by omega,by simp[hw],by rw[hst],by rw[hst]⟩
  simp -implicitDefEqProofs [h1,hjn]
  refine Aa (hB (Co s v) ls[j] (by unfold Co;omega) (by omega)) ?_
  by_cases h2:AJ (Co s v) ls[j]=0
  ·rw[if_pos (by simp[Zk,h1,h2])]at hst
   simp -implicitDefEqProofs [h2,hb]
   exact⟨k-1,by omega,j+1,by omega,by simp[hw],by rw[hst];simp,by rw[hst]⟩
  ·rw[if_neg (by simp[Zk,h1,h2]),List.append_nil]at hst
   simp -implicitDefEqProofs [h2]
   exact⟨k-1,by omega,j+1,by omega,by simp[hw],by rw[hst],by rw[hst]⟩
 ·have hx:=AmA (p:=Zk s v) (xs:=ls) (j:=j) (by omega)
  simp -implicitDefEqProofs [hjn,hx]
theorem AmE (s:List Int) (ls:List (List Int)) (v:Int):SN s ls v<=ls.length:=by
 unfold SN
 split
 ·have:=Afa (f:=Aaa s v) (xs:=ls) (j:=ls.length) (by omega)
  rwa [List.take_length]at this
 ·omega
def FP (s:List Int) (ls:List (List Int)) (v pm:Int):Bool:=AQ s&&(decide (v∈s)&&(!decide (s.length=1)&&(decide (InV pm 0 1000)&&(decide (Kj s ls v=[])&&decide (1000*(SN s ls v:Int)<=pm*(ls.length:Int))))))
abbrev PG:Prop:=∀(s:List Int) (ls:List (List Int)) (v pm:Int),s.length<=4194304->GR ls<=4194304->R [.sl 1 1 s.length (ints s),KZ ls,I v,I pm] [] (B (FP s ls v pm)) []
theorem Ae7 (hA:Dr (D 208)) (hH:UQ (D 166)) (hI:Vf (D 71)) (hS:Ry (D 96)) (hU:Ae1 (D 255)):PG (Body D KF):=by
 intro s ls v pm hs0 hl
 have hll:=Ms (xs:=ls)
 simp -implicitDefEqProofs
 refine Aa (hA s (by unfold maxLen;omega)) ?_
 by_cases h1:AQ s=true
 rotate_left
 ·simp -implicitDefEqProofs [h1,FP]
 simp -implicitDefEqProofs [h1]
 refine Aa (hH s v (by unfold maxLen;omega)) ?_
 by_cases h2:v∈s
 rotate_left
 ·simp -implicitDefEqProofs [h1,h2,FP]
 by_cases h3:s.length=1
 ·have h3':(s.length:Int)=1:=by omega
  simp -implicitDefEqProofs [h1,h2,h3,h3',FP]
 have h3':¬(s.length:Int)=1:=by omega
 simp -implicitDefEqProofs [h1,h2,h3,h3']
 refine Aa (hI _ _ _) ?_
 by_cases h4:InV pm 0 1000
 rotate_left
 ·simp -implicitDefEqProofs [h1,h2,h3,h3',h4,FP]
 simp -implicitDefEqProofs [h3,h3',h4]
 refine Aa (hS s ls v hs0 hl) ?_
 by_cases h5:(Kj s ls v).length=0
 rotate_left
 ·have h5':¬((Kj s ls v).length:Int)=0:=by omega
  have h5'':¬Kj s ls v=[]:=by intro h;rw[h]at h5;simp at h5
  simp -implicitDefEqProofs [h5,h5',h5'',h1,h2,h3,h4,FP]
 have h5'':Kj s ls v=[]:=List.eq_nil_of_length_eq_zero h5
 simp -implicitDefEqProofs [h5'']
 refine Aa (hU s ls v hs0 hl) ?_
 have hu:=AmE s ls v
 have w1:IntKind.i64.wrap (1000*(SN s ls v:Int))=1000*(SN s ls v:Int):=Ad (by omega) (by omega)
 have w2:IntKind.i64.wrap (pm*(ls.length:Int))=pm*(ls.length:Int):=by
  have a1:0<=pm*(ls.length:Int):=Int.mul_nonneg h4.1 (by omega)
  have a2:pm*(ls.length:Int)<=1000*4194304:=Int.mul_le_mul h4.2 (by omega) (by omega) (by omega)
  exact Ad (by omega) (by omega)
 simp -implicitDefEqProofs [h1,h2,h3,h3',h4,h5'',w1,w2,FP]
theorem AFt (hA:Dr (D 232)) (hH:UQ (D 188)) (hI:Vf (D 114)) (hS:Ry (D 124)) (hU:Ae1 (D 265)):PG (Body D AvG):=by
 intro s ls v pm hs0 hl
 have hll:=Ms (xs:=ls)
 simp -implicitDefEqProofs
 refine Aa (hA s (by unfold maxLen;omega)) ?_
 by_cases h1:AQ s=true
 rotate_left
 ·simp -implicitDefEqProofs [h1,FP]
 simp -implicitDefEqProofs [h1]
 refine Aa (hH s v (by unfold maxLen;omega)) ?_
 by_cases h2:v∈s
 rotate_left
 ·simp -implicitDefEqProofs [h1,h2,FP]
 by_cases h3:s.length=1
 ·have h3':(s.length:Int)=1:=by omega
  simp -implicitDefEqProofs [h1,h2,h3,h3',FP]
 have h3':¬(s.length:Int)=1:=by omega
 simp -implicitDefEqProofs [h1,h2,h3,h3']
 refine Aa (hI _ _ _) ?_
 by_cases h4:InV pm 0 1000
 rotate_left
 ·simp -implicitDefEqProofs [h1,h2,h3,h3',h4,FP]
 simp -implicitDefEqProofs [h3,h3',h4]
 refine Aa (hS s ls v hs0 hl) ?_
 by_cases h5:(Kj s ls v).length=0
 rotate_left
 ·have h5':¬((Kj s ls v).length:Int)=0:=by omega
  have h5'':¬Kj s ls v=[]:=by intro h;rw[h]at h5;simp at h5
  simp -implicitDefEqProofs [h5,h5',h5'',h1,h2,h3,h4,FP]
 have h5'':Kj s ls v=[]:=List.eq_nil_of_length_eq_zero h5
 simp -implicitDefEqProofs [h5'']
 refine Aa (hU s ls v hs0 hl) ?_
 have hu:=AmE s ls v
 have w1:IntKind.i64.wrap (1000*(SN s ls v:Int))=1000*(SN s ls v:Int):=Ad (by omega) (by omega)
 have w2:IntKind.i64.wrap (pm*(ls.length:Int))=pm*(ls.length:Int):=by
  have a1:0<=pm*(ls.length:Int):=Int.mul_nonneg h4.1 (by omega)
  have a2:pm*(ls.length:Int)<=1000*4194304:=Int.mul_le_mul h4.2 (by omega) (by omega) (by omega)
  exact Ad (by omega) (by omega)
 simp -implicitDefEqProofs [h1,h2,h3,h3',h4,h5'',w1,w2,FP]
def GN (s:List Int) (ls:List (List Int)) (v pm:Int):List Int×Bool:=if FP s ls v pm=true then(Co s v,true)else(s,false)
abbrev IG:Prop:=∀(s:List Int) (ls:List (List Int)) (v pm:Int),s.length<=4194304->GR ls<=4194304->R [.sl 1 1 s.length (ints s),KZ ls,I v,I pm] [] (.tup [.sl 0 1 (GN s ls v pm).1.length (ints (GN s ls v pm).1),B (GN s ls v pm).2]) []
theorem Xt (hM:PG (D 216)) (hW:Ic (D 167)):IG (Body D GQ):=by
 intro s ls v pm hs0 hl
 have hll:=Ms (xs:=ls)
 have hb:s.length*8<=1099511627776:=by omega
 simp -implicitDefEqProofs
 refine Aa (hM s ls v pm hs0 hl) ?_
 by_cases h1:FP s ls v pm=true
 rotate_left
 ·have e:GN s ls v pm=(s,false):=by unfold GN;rw[if_neg h1]
  simp -implicitDefEqProofs [h1,e,hb]
 have e:GN s ls v pm=(Co s v,true):=by unfold GN;rw[if_pos h1]
 simp -implicitDefEqProofs [h1,e]
 refine Aa (hW s v hs0) ?_
 simp -implicitDefEqProofs [h1,e]
theorem ABl (hM:PG (D 231)) (hW:Aw5 (D 189)):IG (Body D AtH):=by
 intro s ls v pm hs0 hl
 have hll:=Ms (xs:=ls)
 have hb:s.length*8<=1099511627776:=by omega
 simp -implicitDefEqProofs
 refine Aa (hM s ls v pm hs0 hl) ?_
 by_cases h1:FP s ls v pm=true
 rotate_left
 ·have e:GN s ls v pm=(s,false):=by unfold GN;rw[if_neg h1]
  simp -implicitDefEqProofs [h1,e,hb]
 have e:GN s ls v pm=(Co s v,true):=by unfold GN;rw[if_pos h1]
 simp -implicitDefEqProofs [h1,e]
 refine Aa (hW s v hs0) ?_
 simp -implicitDefEqProofs [h1,e]
theorem Ahq {w:World} (h:Af w<=4194304):w.server.length<=4194304:=by unfold Af at h;omega
theorem Ap5 (xs:List Ai):GR (xs.map (·.versions))<=Cr Am xs:=by
 induction xs with
 | nil=>simp[GR,Cr]
 | cons x r ih=>
  simp only[GR,Cr,List.map_cons,List.sum_cons,List.length_cons,Am,List.length_map]at *
  omega
theorem Ahj {w:World} (h:Af w<=4194304):GR (Fh w)<=4194304:=by
 have:=Ap5 w.ends
 unfold Af at h
 unfold Fh
 omega
def Br (w:World) (v pm:Int):World×Bool:=if(GN w.server (Fh w) v pm).2=true/\¬v=w.rollout.version then({w with server:=(GN w.server (Fh w) v pm).1},true)else(w,false)
abbrev MZ:Prop:=∀(w:World) (v pm:Int),Af w<=4194304->R [arg (Bu w),I v,I pm] [] (.tup [.agg (Bu (Br w v pm).1),B (Br w v pm).2]) []
theorem AcI (hC:EF (D 22)) (hL:Q8 (D 95)) (hR:IG (D 150)):MZ (Body D Jq):=by
 intro w v pm h
 simp -implicitDefEqProofs
 refine Aa (hC w h) ?_
 simp -implicitDefEqProofs
 refine Aa (hL w h) ?_
 simp -implicitDefEqProofs
 refine Aa (hR w.server (Fh w) v pm (Ahq h) (Ahj h)) ?_
 by_cases h1:(GN w.server (Fh w) v pm).2=true
 rotate_left
 ·have e:Br w v pm=(w,false):=by unfold Br;rw[if_neg (by simp[h1])]
  simp -implicitDefEqProofs [h1,e]
 by_cases h2:v=w.rollout.version
 ·subst h2
  have e:Br w w.rollout.version pm=(w,false):=by unfold Br;rw[if_neg (by simp)]
  simp -implicitDefEqProofs [h1,e]
 have e:Br w v pm=({w with server:=(GN w.server (Fh w) v pm).1},true):=by unfold Br;rw[if_pos ⟨h1,h2⟩]
 simp -implicitDefEqProofs [h1,h2,e]
theorem AEm (hC:EF (D 38)) (hL:Q8 (D 123)) (hR:IG (D 181)):MZ (Body D AuS):=by
 intro w v pm h
 simp -implicitDefEqProofs
 refine Aa (hC w h) ?_
 simp -implicitDefEqProofs
 refine Aa (hL w h) ?_
 simp -implicitDefEqProofs
 refine Aa (hR w.server (Fh w) v pm (Ahq h) (Ahj h)) ?_
 by_cases h1:(GN w.server (Fh w) v pm).2=true
 rotate_left
 ·have e:Br w v pm=(w,false):=by unfold Br;rw[if_neg (by simp[h1])]
  simp -implicitDefEqProofs [h1,e]
 by_cases h2:v=w.rollout.version
 ·subst h2
  have e:Br w w.rollout.version pm=(w,false):=by unfold Br;rw[if_neg (by simp)]
  simp -implicitDefEqProofs [h1,e]
 have e:Br w v pm=({w with server:=(GN w.server (Fh w) v pm).1},true):=by unfold Br;rw[if_pos ⟨h1,h2⟩]
 simp -implicitDefEqProofs [h1,h2,e]
end Go.Eng.T
