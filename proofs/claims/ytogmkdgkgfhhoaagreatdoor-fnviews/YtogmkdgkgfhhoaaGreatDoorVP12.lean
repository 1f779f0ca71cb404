/- Own work: part 12 of the proof of FnViews. -/
import Derived.Test.YtogmkdgkgfhhoaaGreatDoorVEngAL
import Derived.Test.YtogmkdgkgfhhoaaGreatDoorVP11
set_option linter.unusedSimpArgs false
set_option linter.unusedVariables false
namespace Go.Eng.T
set_option maxRecDepth 20000
abbrev InV (a b c:Int):Prop:=b<=a/\a<=c
def JF (xs:List Int) (j:Nat):Bool:=(List.range j).all fun i=>decide (InV (xs.getD i 0) 1 9)&&(decide (i=0)||decide (xs.getD (i-1) 0<xs.getD i 0))
theorem Qu (xs:List Int) (j:Nat):JF xs (j+1)=(JF xs j&&(decide (InV (xs.getD j 0) 1 9)&&(decide (j=0)||decide (xs.getD (j-1) 0<xs.getD j 0)))):=by
 unfold JF
 rw[List.range_succ,List.all_append]
 simp
theorem Adi {xs:List Int} {j:Nat} (h:j<xs.length) (hn:JF xs (j+1)=false):JF xs xs.length=false:=by
 have:∀n,JF xs (j+1+n)=false:=by
  intro n
  induction n with
  | zero=>exact hn
  | succ n ih=>rw[show j+1+(n+1)=(j+1+n)+1 by omega,Qu,ih];rfl
 have:=this (xs.length-(j+1))
 rwa [show j+1+(xs.length-(j+1))=xs.length by omega]at this
theorem VG {xs:List Int} {j:Nat} (h:j<xs.length):xs.getD j 0=xs[j]:=by simp[h]
def AQ (xs:List Int):Bool:=JF xs xs.length&&decide (0<xs.length)
variable (R:Rel)
abbrev Dr:Prop:=∀xs:List Int,xs.length<=maxLen->R [.sl 1 1 xs.length (ints xs)] [] (B (AQ xs)) []
variable (D:Dn)
theorem AaQ (hI:Vf (D 71)):Dr (Body D I6):=by
 intro xs hl
 unfold maxLen at hl
 simp -implicitDefEqProofs
 refine Ag (fun k s=>∃j,j+k=xs.length/\JF xs j=true/\s=⟨[.sl 1 1 xs.length (ints xs),.undef,.sc (.int .i64 j),.undef,.undef],[]⟩) ?_ xs.length _ ⟨0,by simp,by simp[JF],by simp⟩
 intro k s ⟨j,hj,hr,hs⟩
 subst hs
 by_cases hjn:j<xs.length
 ·have hw:=Cv (j:=j) (by omega)
  have hst:=Qu xs j
  rw[hr,Bool.true_and,VG hjn]at hst
  simp -implicitDefEqProofs [hjn]
  refine Aa (hI _ _ _) ?_
  by_cases h1:InV xs[j] 1 9
  rotate_left
  ·have e:AQ xs=false:=by unfold AQ;rw[Adi hjn (by rw[hst];simp[h1])];rfl
   simp -implicitDefEqProofs [h1,e]
  by_cases h0:j=0
  ·subst h0
   simp -implicitDefEqProofs [h1]
   exact⟨k-1,by omega,1,by omega,by rw[hst];simp[h1],by simpa using hw⟩
  ·have hw2:IntKind.i64.wrap ((j:Int)-1)=((j-1:Nat):Int):=by rw[Ad (by omega) (by omega)];omega
   have h2:(0:Int)<j:=by omega
   have h2':0<j:=by omega
   have h3:j-1<xs.length:=by omega
   rw[VG h3]at hst
   by_cases h4:xs[j-1]<xs[j]
   ·have h4':¬xs[j]<=xs[j-1]:=by omega
    simp -implicitDefEqProofs [h1,h2,h2',hw2,h3,hjn,h4']
    exact⟨k-1,by omega,j+1,by omega,by rw[hst];simp[h1,h0,h4],by simp[hw]⟩
   ·have e:AQ xs=false:=by unfold AQ;rw[Adi hjn (by rw[hst];simp[h1,h0,h4])];rfl
    have h4':xs[j]<=xs[j-1]:=by omega
    simp -implicitDefEqProofs [h1,h2,h2',hw2,h3,hjn,h4',e]
 ·obtain rfl:j=xs.length:=by omega
  have e:AQ xs=decide (0<xs.length):=by unfold AQ;rw[hr];rfl
  by_cases h5:0<xs.length
  ·have h5':(0:Int)<xs.length:=by omega
   simp -implicitDefEqProofs [e,h5,h5']
  ·have h5':¬(0:Int)<xs.length:=by omega
   simp -implicitDefEqProofs [e,h5,h5']
theorem LD {p:Int->Bool} {xs:List Int} {j:Nat} (h:j<xs.length):(xs.take (j+1)).filter p=(xs.take j).filter p++(if p xs[j]then [xs[j]]else []):=by
 have e:xs.take (j+1)=xs.take j++ [xs[j]]:=by simp
 rw[e,List.filter_append]
 by_cases hp:p xs[j]=true<;>simp[hp]
theorem N7 {p:Int->Bool} {xs:List Int} {j:Nat} (h:xs.length<=j):(xs.take j).filter p=xs.filter p:=by rw[List.take_of_length_le h]
theorem Oa {p:Int->Bool} {xs:List Int} {j:Nat}:((xs.take j).filter p).length<=j:=by
 have:=List.length_filter_le p (xs.take j)
 have h2:(xs.take j).length<=j:=by simp;omega
 omega
def common (a b:List Int):List Int:=a.filter fun v=>decide (v∈b)
def Co (a:List Int) (v:Int):List Int:=a.filter fun x=> !decide (x=v)
abbrev Rz:Prop:=∀a b:List Int,a.length<=4194304->b.length<=maxLen->R [.sl 1 1 a.length (ints a),.sl 1 1 b.length (ints b)] [] (.sl 0 1 (common a b).length (ints (common a b))) []
abbrev Ic:Prop:=∀(a:List Int) (v:Int),a.length<=4194304->R [.sl 1 1 a.length (ints a),I v] [] (.sl 0 1 (Co a v).length (ints (Co a v))) []
theorem AgF (hH:UQ (D 166)):Rz (Body D Mc):=by
 intro a b ha hb'
 have hres:common a b=a.filter (fun v=>decide (v∈b)):=rfl
 rw[hres]
 simp -implicitDefEqProofs
 refine Ag (fun k s=>∃j o1 o2,j+k=a.length/\s=⟨[.sl 1 1 a.length (ints a),.sl 1 1 b.length (ints b),.undef,.arr 3,.sc (.int .i64 j),.undef,.undef],[.free,o1,o2,.arr 1 0 ((a.take j).filter (fun v=>decide (v∈b))).length (ints ((a.take j).filter (fun v=>decide (v∈b))))]⟩) ?_ a.length _ ⟨0,by simp⟩
 intro k s ⟨j,o1,o2,hj,hs⟩
 subst hs
 by_cases hjn:j<a.length
 ·have hw:=Cv (j:=j) (by omega)
  have hst:=LD (p:=fun v=>decide (v∈b)) hjn
  have hln:=Oa (p:=fun v=>decide (v∈b)) (xs:=a) (j:=j)
  have hb:(((a.take j).filter (fun v=>decide (v∈b))).length+1)*8<=1099511627776:=by omega
  simp -implicitDefEqProofs [hjn]
  refine Aa (hH b _ hb') ?_
  by_cases h1:a[j]∈b
  ·rw[if_pos (by simp[h1])]at hst
   simp -implicitDefEqProofs [h1,hjn,hb]
   exact⟨k-1,by omega,j+1,by omega,by simp[hw],by rw[hst];simp,by rw[hst]⟩
  ·rw[if_neg (by simp[h1]),List.append_nil]at hst
   simp -implicitDefEqProofs [h1,hjn,hb]
   exact⟨k-1,by omega,j+1,by omega,by simp[hw],by rw[hst],by rw[hst]⟩
 ·have hx:=N7 (p:=fun v=>decide (v∈b)) (xs:=a) (j:=j) (by omega)
  simp -implicitDefEqProofs [hjn,hx]
theorem Ad0:Ic (Body D Jy):=by
 intro a v ha
 have hres:Co a v=a.filter (fun x=> !decide (x=v)):=rfl
 rw[hres]
 simp -implicitDefEqProofs
 refine Ag (fun k s=>∃j o1 o2,j+k=a.length/\s=⟨[.sl 1 1 a.length (ints a),.sc (.int .i64 v),.undef,.arr 3,.sc (.int .i64 j),.undef,.undef],[.free,o1,o2,.arr 1 0 ((a.take j).filter (fun x=> !decide (x=v))).length (ints ((a.take j).filter (fun x=> !decide (x=v))))]⟩) ?_ a.length _ ⟨0,by simp⟩
 intro k s ⟨j,o1,o2,hj,hs⟩
 subst hs
 by_cases hjn:j<a.length
 ·have hw:=Cv (j:=j) (by omega)
  have hst:=LD (p:=fun x=> !decide (x=v)) hjn
  have hln:=Oa (p:=fun x=> !decide (x=v)) (xs:=a) (j:=j)
  have hb:(((a.take j).filter (fun x=> !decide (x=v))).length+1)*8<=1099511627776:=by omega
  simp -implicitDefEqProofs [hjn]
  by_cases h1:a[j]=v
  ·rw[if_neg (by simp[h1]),List.append_nil]at hst
   simp -implicitDefEqProofs [h1,hjn,hb]
   exact⟨k-1,by omega,j+1,by omega,by simp[hw],by rw[hst],by rw[hst]⟩
  ·rw[if_pos (by simp[h1])]at hst
   simp -implicitDefEqProofs [h1,hjn,hb]
   exact⟨k-1,by omega,j+1,by omega,by simp[hw],by rw[hst];simp,by rw[hst]⟩
 ·have hx:=N7 (p:=fun x=> !decide (x=v)) (xs:=a) (j:=j) (by omega)
  simp -implicitDefEqProofs [hjn,hx]
def hB (h:Hello):Prop:=h.versions.length<=4194304/\OD h.exts
def Dt (h:Hello):Bool:=AQ h.versions&&Ej h.exts
abbrev Gr:Prop:=∀h:Hello,hB h->R [arg (Ck h)] [] (B (Dt h)) []
theorem Aip (hA:Dr (D 208)) (hE:JX (D 312)):Gr (Body D Nq):=by
 intro h hh
 simp -implicitDefEqProofs
 refine Aa (hA _ (by have:=hh.1;unfold maxLen;omega)) ?_
 by_cases h1:AQ h.versions=true
 rotate_left
 ·simp -implicitDefEqProofs [h1,Dt]
 simp -implicitDefEqProofs [h1]
 refine Aa (hE _ hh.2) ?_
 simp -implicitDefEqProofs [h1,Dt]
abbrev Q9:Prop:=∀h:Hello,hB h->R [arg (Ck h)] [] (.agg (Ck h)) []
theorem Ah2 (hE:U5 (D 311)):Q9 (Body D MB):=by
 intro h hh
 have h1:h.versions.length*8<=1099511627776:=by have:=hh.1;omega
 simp -implicitDefEqProofs [h1]
 refine Aa (hE _ hh.2) ?_
 simp -implicitDefEqProofs
def lossy (b:EG) (x:Ext):Bool:=decide (x.tag∈b.drops)||(b.lists&&(!decide (x.tag∈b.strips)&& !decide (M6 x.tag 1 3)))
def Aoa (vs:List Int):Int:=vs.getLastD 0
def PK (b:EG) (h:Hello):Bool:=(decide (0<b.limit)&&decide (b.limit<Aoa h.versions))||h.exts.any (lossy b)
def stays (b:EG) (t:Int):Bool:= !decide (t∈b.strips)
def AU:Hello:=⟨[],[]⟩
def BV (b:EG) (h:Hello):Hello×Bool:=if IL b&&(Dt h&& !PK b h)then(⟨h.versions,kept (stays b) h.exts⟩,true)else(AU,false)
abbrev Vm:Prop:=∀(b:EG) (h:Hello),Kh b->hB h->R [arg (DT b),arg (Ck h)] [] (.tup [.agg (Ck (BV b h).1),B (BV b h).2]) []
theorem ZT {xs:List Int} (h:AQ xs=true):0<xs.length:=by
 unfold AQ at h
 simp only[Bool.and_eq_true,decide_eq_true_eq]at h
 exact h.2
theorem Ao7 {xs:List Int} (h:xs.length-1<xs.length):Aoa xs=xs[xs.length-1]:=by
 unfold Aoa
 rw[List.getLastD_eq_getLast?,List.getLast?_eq_getElem?,List.getElem?_eq_getElem h];rfl
theorem Ai4 (hX:XD (D 152)) (hE:Gr (D 285)) (hH:UQ (D 166)) (hI:Vf (D 71)):Vm (Body D Nv):=by
 intro b h hb hh
 obtain⟨hv,hx⟩:=hh
 have hll:=hx.1
 simp -implicitDefEqProofs
 refine Aa (hX b hb) ?_
 by_cases h1:IL b=true
 rotate_left
 ·simp -implicitDefEqProofs [h1,BV,AU]
 simp -implicitDefEqProofs [h1]
 refine Aa (hE h ⟨hv,hx⟩) ?_
 by_cases h2:Dt h=true
 rotate_left
 ·simp -implicitDefEqProofs [h2,BV,AU]
 have hpos:0<h.versions.length:=ZT (by unfold Dt at h2;simp only[Bool.and_eq_true]at h2;exact h2.1)
 have hn1:h.versions.length-1<h.versions.length:=by omega
 have hw1:IntKind.i64.wrap ((h.versions.length:Int)-1)=((h.versions.length-1:Nat):Int):=by rw[Ad (by omega) (by omega)];omega
 have htop:=Ao7 hn1
 by_cases h3:0<b.limit
 ·by_cases h4:b.limit<h.versions[h.versions.length-1]
  ·have e:BV b h=(AU,false):=by simp[BV,PK,htop,h3,h4]
   simp -implicitDefEqProofs [h2,h3,hw1,hn1,hpos,h4,e,AU]
  ·have h3':b.limit<Aoa h.versions↔False:=by rw[htop];simpa using h4
   have b0:h.versions.length*8<=1099511627776:=by omega
   simp -implicitDefEqProofs [h2,h3,hw1,hn1,hpos,h4,b0]
   refine Ag (fun k s=>∃j v8 o6 o7 o8 o9,j+k=h.exts.length/\(h.exts.take j).any (lossy b)=false/\s=⟨[.undef,.undef,.ptr 0 0,.ptr 1 0,.ptr 2 0,.undef,.ptr 5 0,I j,v8,.undef,.undef,.undef,.undef,.undef],[.var ((DT b).map (AO 1)),.var ((Ck h).map (AO 1)),.var [.nil 1,.nil 2],.dead,.arr 1 0 h.versions.length (ints h.versions),.var [.arr 4,.arr 10],o6,o7,o8,o9,.arr 2 0 (kept (stays b) (h.exts.take j)).length ((kept (stays b) (h.exts.take j)).flatMap Cc)]⟩) ?_ (h.exts.length) _ ⟨0,.undef,.free,.free,.free,.free,by simp,by simp,by simp[kept]⟩
   intro k s ⟨j,v8,o6,o7,o8,o9,hj,hp,hs⟩
   subst hs
   by_cases hjn:j<h.exts.length
   ·have hw:=Cv (j:=j) (by omega)
    have hbd:=P5 hx hjn
    have b1:h.exts[j].body.length*8<=1099511627776:=by omega
    have hkl:=Rl (p:=stays b) (l:=h.exts) (j:=j)
    have b2:((kept (stays b) (h.exts.take j)).length+1)*32<=1099511627776:=by omega
    have hst:=Abh (p:=lossy b) hjn
    rw[hp,Bool.false_or]at hst
    simp -implicitDefEqProofs [hjn]
    refine Aa (hH _ _ hb.2) ?_
    simp -implicitDefEqProofs
    refine Aa (hH _ _ hb.1) ?_
    by_cases g1:h.exts[j].tag∈b.drops
    ·have e:BV b h=(AU,false):=by
      have:=QR (p:=lossy b) hjn (by simp[lossy,g1])
      simp[BV,PK,this]
     simp -implicitDefEqProofs [g1,e,AU]
    by_cases g2:h.exts[j].tag∈b.strips
    ·have hl:lossy b h.exts[j]=false:=by simp[lossy,g1,g2]
     have hk:=RG (p:=stays b) hjn (by simp[stays,g2])
     by_cases g3:b.lists=true
     ·simp -implicitDefEqProofs [g1,g2,g3]
      exact⟨k-1,by omega,j+1,by omega,by simpa using hst.trans hl,by simp[hw],by rw[hk],by rw[hk]⟩
     ·simp -implicitDefEqProofs [g1,g2,g3]
      exact⟨k-1,by omega,j+1,by omega,by simpa using hst.trans hl,by simp[hw],by rw[hk],by rw[hk]⟩
    have hk:=NZ (p:=stays b) hjn (by simp[stays,g2])
    have hkl:=G7 (p:=stays b) hjn (by simp[stays,g2])
    by_cases g3:b.lists=true
    rotate_left
    ·have hl:lossy b h.exts[j]=false:=by simp[lossy,g1,g2,g3]
     simp -implicitDefEqProofs [g1,g2,g3,hjn,b1,b2]
     exact⟨k-1,by omega,j+1,by omega,by simpa using hst.trans hl,by simp[hw],by rw[hkl],by rw[<-hk]⟩
    simp -implicitDefEqProofs [g1,g2,g3]
    refine Aa (hI _ _ _) ?_
    by_cases g4:M6 h.exts[j].tag 1 3
    ·have hl:lossy b h.exts[j]=false:=by simp[lossy,g1,g2,g3,g4]
     simp -implicitDefEqProofs [g4,hjn,b1,b2]
     exact⟨k-1,by omega,j+1,by omega,by simpa using hst.trans hl,by simp[hw],by rw[hkl],by rw[<-hk]⟩
    ·have e:BV b h=(AU,false):=by
      have:=QR (p:=lossy b) hjn (by simp[lossy,g1,g2,g3,g4])
      simp[BV,PK,this]
     simp -implicitDefEqProofs [g4,e,AU]
   ·have hje:j=h.exts.length:=by omega
    have ea:h.exts.any (lossy b)=false:=any_none (by omega) hp
    have ek:=Rq (p:=stays b) (l:=h.exts) (j:=j) (by omega)
    have e:BV b h=(⟨h.versions,kept (stays b) h.exts⟩,true):=by simp only[BV,h1,h2,PK,ea,h3'];simp
    simp -implicitDefEqProofs [hjn,e,ek]
 ·have b0:h.versions.length*8<=1099511627776:=by omega
  simp -implicitDefEqProofs [h2,h3,b0]
  refine Ag (fun k s=>∃j v8 o6 o7 o8 o9,j+k=h.exts.length/\(h.exts.take j).any (lossy b)=false/\s=⟨[.undef,.undef,.ptr 0 0,.ptr 1 0,.ptr 2 0,.undef,.ptr 5 0,I j,v8,.undef,.undef,.undef,.undef,.undef],[.var ((DT b).map (AO 1)),.var ((Ck h).map (AO 1)),.var [.nil 1,.nil 2],.dead,.arr 1 0 h.versions.length (ints h.versions),.var [.arr 4,.arr 10],o6,o7,o8,o9,.arr 2 0 (kept (stays b) (h.exts.take j)).length ((kept (stays b) (h.exts.take j)).flatMap Cc)]⟩) ?_ (h.exts.length) _ ⟨0,.undef,.free,.free,.free,.free,by simp,by simp,by simp[kept]⟩
  intro k s ⟨j,v8,o6,o7,o8,o9,hj,hp,hs⟩
  subst hs
  by_cases hjn:j<h.exts.length
  ·have hw:=Cv (j:=j) (by omega)
   have hbd:=P5 hx hjn
   have b1:h.exts[j].body.length*8<=1099511627776:=by omega
   have hkl:=Rl (p:=stays b) (l:=h.exts) (j:=j)
   have b2:((kept (stays b) (h.exts.take j)).length+1)*32<=1099511627776:=by omega
   have hst:=Abh (p:=lossy b) hjn
   rw[hp,Bool.false_or]at hst
   simp -implicitDefEqProofs [hjn]
   refine Aa (hH _ _ hb.2) ?_
   simp -implicitDefEqProofs
   refine Aa (hH _ _ hb.1) ?_
   by_cases g1:h.exts[j].tag∈b.drops
   ·have e:BV b h=(AU,false):=by
     have:=QR (p:=lossy b) hjn (by simp[lossy,g1])
     simp[BV,PK,this]
    simp -implicitDefEqProofs [g1,e,AU]
   by_cases g2:h.exts[j].tag∈b.strips
   ·have hl:lossy b h.exts[j]=false:=by simp[lossy,g1,g2]
    have hk:=RG (p:=stays b) hjn (by simp[stays,g2])
    by_cases g3:b.lists=true
    ·simp -implicitDefEqProofs [g1,g2,g3]
     exact⟨k-1,by omega,j+1,by omega,by simpa using hst.trans hl,by simp[hw],by rw[hk],by rw[hk]⟩
    ·simp -implicitDefEqProofs [g1,g2,g3]
     exact⟨k-1,by omega,j+1,by omega,by simpa using hst.trans hl,by simp[hw],by rw[hk],by rw[hk]⟩
   have hk:=NZ (p:=stays b) hjn (by simp[stays,g2])
   have hkl:=G7 (p:=stays b) hjn (by simp[stays,g2])
   by_cases g3:b.lists=true
   rotate_left
   ·have hl:lossy b h.exts[j]=false:=by simp[lossy,g1,g2,g3]
    simp -implicitDefEqProofs [g1,g2,g3,hjn,b1,b2]
    exact⟨k-1,by omega,j+1,by omega,by simpa using hst.trans hl,by simp[hw],by rw[hkl],by rw[<-hk]⟩
   simp -implicitDefEqProofs [g1,g2,g3]
   refine Aa (hI _ _ _) ?_
   by_cases g4:M6 h.exts[j].tag 1 3
   ·have hl:lossy b h.exts[j]=false:=by simp[lossy,g1,g2,g3,g4]
    simp -implicitDefEqProofs [g4,hjn,b1,b2]
    exact⟨k-1,by omega,j+1,by omega,by simpa using hst.trans hl,by simp[hw],by rw[hkl],by rw[<-hk]⟩
   ·have e:BV b h=(AU,false):=by
     have:=QR (p:=lossy b) hjn (by simp[lossy,g1,g2,g3,g4])
     simp[BV,PK,this]
    simp -implicitDefEqProofs [g4,e,AU]
  ·have hje:j=h.exts.length:=by omega
   have ea:h.exts.any (lossy b)=false:=any_none (by omega) hp
   have ek:=Rq (p:=stays b) (l:=h.exts) (j:=j) (by omega)
   have e:BV b h=(⟨h.versions,kept (stays b) h.exts⟩,true):=by simp only[BV,h1,h2,PK,ea,h3];simp
   simp -implicitDefEqProofs [hjn,e,ek]
def Gd:List EG->Hello->Hello×Bool
 | [],h=>(h,true)
 | b::r,h=>if(BV b h).2=true then Gd r (BV b h).1 else(AU,false)
theorem AfO {path:List EG} {j:Nat} {x:Hello} (h:j<path.length):Gd (path.drop j) x=if(BV path[j] x).2=true then Gd (path.drop (j+1)) (BV path[j] x).1 else(AU,false):=by
 rw[List.drop_eq_getElem_cons h];rfl
theorem Aid {path:List EG} {j:Nat} {x:Hello} (h:path.length<=j):Gd (path.drop j) x=(x,true):=by rw[List.drop_eq_nil_of_le h];rfl
def Bd (path:List EG) (h:Hello):Hello×Bool:=if decide (path.length<=4)&&Dt h then Gd path h else(AU,false)
theorem Aba:hB AU:=⟨by simp[AU],Afg⟩
theorem Ajy {b:EG} {h:Hello} (hh:hB h):hB (BV b h).1:=by
 unfold BV
 split
 ·exact⟨hh.1,QV hh.2 _⟩
 ·exact Aba
abbrev Jj:Prop:=∀(path:List EG) (h:Hello),lnS Kh path->hB h->R [.sl 1 4 path.length (path.flatMap DT),arg (Ck h)] [] (.tup [.agg (Ck (Bd path h).1),B (Bd path h).2]) []
theorem Ahg (hE:Gr (D 285)) (hC:Q9 (D 301)) (hP:Vm (D 258)):Jj (Body D Mk):=by
 intro path h hb hh
 have hl:=hb.1
 unfold maxLen at hl
 by_cases h1:path.length<=4
 rotate_left
 ·have h1':(4:Int)<path.length:=by omega
  simp -implicitDefEqProofs [h1',h1,Bd,AU]
 have h1':¬(4:Int)<path.length:=by omega
 simp -implicitDefEqProofs [h1']
 refine Aa (hE h hh) ?_
 by_cases h2:Dt h=true
 rotate_left
 ·simp -implicitDefEqProofs [h2,h1,Bd,AU]
 have e:Bd path h=Gd path h:=by simp[Bd,h1,h2]
 rw[e]
 simp -implicitDefEqProofs [h2]
 refine Aa (hC h hh) ?_
 simp -implicitDefEqProofs
 refine Ag (fun k s=>∃j x o5 o6 o7,j+k=path.length/\hB x/\Gd path h=Gd (path.drop j) x/\s=⟨[.sl 1 4 path.length (path.flatMap DT),.undef,.undef,.ptr 1 0,.undef,.ptr 4 0,I j,.undef,.undef,.undef,.undef,.undef],[.var ((Ck h).map (AO 1)),.var [.nil 1,.nil 2],.free,.free,.var [.arr 8,.arr 9],o5,o6,o7,.arr 1 0 x.versions.length (ints x.versions),.arr 2 0 x.exts.length (x.exts.flatMap Cc)]⟩) ?_ (path.length) _ ⟨0,h,.free,.free,.free,by simp,hh,by simp,by simp⟩
 intro k s ⟨j,x,o5,o6,o7,hj,hx,hg,hs⟩
 subst hs
 by_cases hjn:j<path.length
 ·have hw:=Cv (j:=j) (by omega)
  rw[AfO hjn]at hg
  simp -implicitDefEqProofs [hjn]
  refine Aa (hP path[j] x (hb.2 j hjn) hx) ?_
  have hx':=Ajy (b:=path[j]) hx
  generalize BV path[j] x=r at hg hx'
  by_cases hk:r.2=true
  ·rw[if_pos hk]at hg
   simp -implicitDefEqProofs [hk]
   refine⟨k-1,by omega,j+1,by omega,r.1,hx',?_⟩
   simp[hw,hg]
  ·rw[if_neg hk]at hg
   simp -implicitDefEqProofs [hk,hg,AU]
 ·rw[Aid (by omega)]at hg
  simp -implicitDefEqProofs [hjn,hg]
def Aon (b:EG):Bool:=decide (b.limit=0)&&(decide (b.drops.length=0)&&(decide (b.strips.length=0)&& !b.lists))
def AfS (path:List EG):Bool:=decide (path.length<=4)&&path.all Aon
theorem NP {α:Type} {p:α->Bool} {xs:List α} {j:Nat} (h:j<xs.length) (hp:p xs[j]=false):xs.all p=false:=List.all_eq_false.2 ⟨_,List.getElem_mem h,by simp[hp]⟩
theorem Qm {α:Type} {p:α->Bool} {xs:List α} {j:Nat} (h:j<xs.length):(xs.take (j+1)).all p=((xs.take j).all p&&p xs[j]):=by
 have e:xs.take (j+1)=xs.take j++ [xs[j]]:=by simp
 rw[e,List.all_append];simp
theorem VW {α:Type} {p:α->Bool} {xs:List α} {j:Nat} (h:xs.length<=j):(xs.take j).all p=xs.all p:=by rw[List.take_of_length_le h]
abbrev JZ:Prop:=∀xs:List Int,xs.length<=4194304->R [.sl 1 1 xs.length (ints xs)] [] (.agg (Ck ⟨xs,[]⟩)) []
theorem Ac8:JZ (Body D Jo):=by
 intro xs h
 have h1:xs.length*8<=1099511627776:=by omega
 simp -implicitDefEqProofs [h1]
def isOpen (path:List EG) (vs:List Int):Bool:=AQ vs&&(Bd path ⟨vs.take 1,[]⟩).2
abbrev J4:Prop:=∀(path:List EG) (vs:List Int),lnS Kh path->vs.length<=4194304->R [.sl 1 4 path.length (path.flatMap DT),.sl 1 1 vs.length (ints vs)] [] (B (isOpen path vs)) []
theorem AcL (hA:Dr (D 208)) (hH:JZ (D 256)) (hP:Jj (D 286)):J4 (Body D JD):=by
 intro path vs hb hv
 simp -implicitDefEqProofs
 refine Aa (hA vs (by unfold maxLen;omega)) ?_
 by_cases h1:AQ vs=true
 rotate_left
 ·simp -implicitDefEqProofs [h1,isOpen]
 have hpos:=ZT h1
 have h1l:(1:Int)<=vs.length:=by omega
 have h1n:1<=vs.length:=by omega
 have hlen:(vs.take 1).length=1:=by simp;omega
 have hmin:min 1 vs.length=1:=by omega
 simp -implicitDefEqProofs [h1,h1l,h1n]
 have hh:=hH (vs.take 1) (by omega)
 rw[hlen]at hh
 refine Aa (hh) ?_
 simp -implicitDefEqProofs [hmin]
 have hp:=hP path ⟨vs.take 1,[]⟩ hb ⟨by simp;omega,Afg⟩
 simp -implicitDefEqProofs [hmin]at hp
 refine Aa (hp) ?_
 simp -implicitDefEqProofs [isOpen,h1]
def Q5 (path:List EG) (v:Int):Bool:= !(Bd path ⟨[v],[]⟩).2
def BZ (path:List EG) (vs:List Int):List Int:=if AQ vs=true then vs.filter (Q5 path)else []
abbrev JH:Prop:=∀(path:List EG) (vs:List Int),lnS Kh path->vs.length<=4194304->R [.sl 1 4 path.length (path.flatMap DT),.sl 1 1 vs.length (ints vs)] [] (.sl 0 1 (BZ path vs).length (ints (BZ path vs))) []
theorem AhL (path:List EG) (v:Int):isOpen path [v]= !Q5 path v:=by
 unfold isOpen Q5
 by_cases h:AQ [v]=true
 ·simp[h]
 ·have:Bd path ⟨[v],[]⟩=(AU,false):=by
   unfold Bd Dt
   have h':AQ [v]=false:=by simpa using h
   simp[h']
  simp[h,this]
theorem Zm (hA:Dr (D 208)) (hO:J4 (D 260)):JH (Body D H9):=by
 intro path vs hb hv
 by_cases h1:AQ vs=true
 rotate_left
 ·have e:BZ path vs=[]:=by unfold BZ;rw[if_neg h1]
  rw[e]
  simp -implicitDefEqProofs
  refine Ag (fun k s=>s=⟨[.sl 1 4 path.length (path.flatMap DT),.sl 1 1 vs.length (ints vs),.undef,.arr 3,I 0,.undef,.undef],[.free,.free,.free,.arr 1 0 0 (ints [])]⟩) ?_ 0 _ (by simp)
  intro k s hs
  subst hs
  by_cases h0:0<vs.length
  ·simp -implicitDefEqProofs [h0]
   refine Aa (hA vs (by unfold maxLen;omega)) ?_
   simp -implicitDefEqProofs [h1]
  ·simp -implicitDefEqProofs [h0]
 have e:BZ path vs=vs.filter (Q5 path):=by unfold BZ;rw[if_pos h1]
 rw[e]
 simp -implicitDefEqProofs
 refine Ag (fun k s=>∃j o1 o2,j+k=vs.length/\s=⟨[.sl 1 4 path.length (path.flatMap DT),.sl 1 1 vs.length (ints vs),.undef,.arr 3,I j,.undef,.undef],[.free,o1,o2,.arr 1 0 ((vs.take j).filter (Q5 path)).length (ints ((vs.take j).filter (Q5 path)))]⟩) ?_ (vs.length) _ ⟨0,.free,.free,by simp,by simp⟩
 intro k s ⟨j,o1,o2,hj,hs⟩
 subst hs
 by_cases hjn:j<vs.length
 ·have hw:=Cv (j:=j) (by omega)
  have hst:=LD (p:=Q5 path) hjn
  have hfl:=Oa (p:=Q5 path) (xs:=vs) (j:=j)
  have hb1:(((vs.take j).filter (Q5 path)).length+1)*8<=1099511627776:=by omega
  have hw1:IntKind.i64.wrap ((j:Int)+1)=(j:Int)+1:=Ad (by omega) (by omega)
  have hj1:j+1<=vs.length:=by omega
  have hj2:(j:Int)+1<=vs.length:=by omega
  have hdt:(vs.drop j).take 1=[vs[j]]:=by rw[List.drop_eq_getElem_cons hjn];rfl
  simp -implicitDefEqProofs [hjn]
  refine Aa (hA vs (by unfold maxLen;omega)) ?_
  have hjj:(j:Int)<=(j:Int)+1:=by omega
  have h11:j+1-j=1:=by omega
  simp -implicitDefEqProofs [h1,hw1,hj1,hj2,hdt,hjn,hjj,h11]
  refine Aa (hO path [vs[j]] hb (by simp)) ?_
  rw[AhL]
  by_cases h2:Q5 path vs[j]=true
  ·rw[if_pos h2]at hst
   simp -implicitDefEqProofs [h2,hjn,hb1]
   exact⟨k-1,by omega,j+1,by omega,by simp[hw],by rw[hst];simp,by rw[hst]⟩
  ·rw[if_neg h2,List.append_nil]at hst
   simp -implicitDefEqProofs [h2]
   exact⟨k-1,by omega,j+1,by omega,by simp[hw],by rw[hst],by rw[hst]⟩
 ·have e2:=N7 (p:=Q5 path) (xs:=vs) (j:=j) (by omega)
  simp -implicitDefEqProofs [hjn,e2]
set_option maxHeartbeats 1000000
def Sw (l:List Int):Int:=l.foldl (fun a v=>if v>a then v else a) 0
theorem Aew {x:Int}:∀(l:List Int) (a:Int),(∀y,y∈l->y<x)->a<x->l.foldl (fun a v=>if v>a then v else a) a<x
 | [],a,_,h=>h
 | y::l,a,hl,h=>by
  simp only[List.foldl_cons]
  refine Aew l _ (fun z hz=>hl z (by simp[hz])) ?_
  split
  ·exact hl y (by simp)
  ·exact h
theorem Aat {xs:List Int}:∀(n:Nat),JF xs n=true->∀i j,i<j->j<n->xs.getD i 0<xs.getD j 0
 | 0,_,i,j,_,h=>by omega
 | n+1,hr,i,j,hij,hj=>by
  rw[Qu]at hr
  simp only[Bool.and_eq_true,Bool.or_eq_true,decide_eq_true_eq]at hr
  obtain⟨h1,_,h3⟩:=hr
  by_cases hjn:j<n
  ·exact Aat n h1 i j hij hjn
  ·obtain rfl:j=n:=by omega
   have h4:xs.getD (j-1) 0<xs.getD j 0:=by
    rcases h3 with h3 | h3
    ·omega
    ·exact h3
   by_cases he:i=j-1
   ·rw[he];exact h4
   ·have:=Aat j h1 i (j-1) (by omega) (by omega)
    omega
theorem Amw {xs:List Int} {n i:Nat} (h:JF xs n=true) (hi:i<n):InV (xs.getD i 0) 1 9:=by
 unfold JF at h
 have:=List.all_eq_true.1 h i (List.mem_range.2 hi)
 simp at this
 exact⟨this.1.1,this.1.2⟩
theorem Ru {xs:List Int} (h:AQ xs=true):xs.Pairwise (· < ·):=by
 unfold AQ at h
 simp only[Bool.and_eq_true,decide_eq_true_eq]at h
 rw[List.pairwise_iff_getElem]
 intro i j hi hj hij
 have:=Aat _ h.1 i j hij hj
 rwa [VG hi,VG hj]at this
theorem RF {xs:List Int} (h:AQ xs=true):∀x,x∈xs->InV x 1 9:=by
 unfold AQ at h
 simp only[Bool.and_eq_true,decide_eq_true_eq]at h
 intro x hx
 obtain⟨i,hi,rfl⟩:=List.getElem_of_mem hx
 have:=Amw h.1 hi
 rwa [VG hi]at this
theorem Akj {l:List Int} (hp:l.Pairwise (· < ·)) (h0:∀x,x∈l->0<x) (hn:0<l.length):Sw l=l[l.length-1]:=by
 obtain⟨l',x,rfl⟩:∃l' x,l=l'++ [x]:=by
  rcases List.eq_nil_or_concat l with h | ⟨l',x,h⟩
  ·rw[h]at hn;simp at hn
  ·exact⟨l',x,by simpa using h⟩
 rw[List.pairwise_append]at hp
 have h1:Sw l' <x:=Aew l' 0 (fun y hy=>hp.2.2 y hy x (by simp)) (h0 x (by simp))
 have h2:Sw (l'++ [x])=if x>Sw l' then x else Sw l':=by unfold Sw;rw[List.foldl_append];rfl
 rw[h2,if_pos h1]
 simp
def AJ (a b:List Int):Int:=if AQ a=true/\AQ b=true then Sw (common a b)else 0
abbrev FQ:Prop:=∀a b:List Int,a.length<=4194304->b.length<=4194304->R [.sl 1 1 a.length (ints a),.sl 1 1 b.length (ints b)] [] (I (AJ a b)) []
theorem ml {n:Nat} (h:n<=4194304):n<=maxLen:=by unfold maxLen;omega
theorem Acp (hC:Rz (D 224)) (hA:Dr (D 208)):FQ (Body D Jf):=by
 intro a b ha hb
 have hcl:(common a b).length<=4194304:=Nat.le_trans (List.length_filter_le _ _) ha
 simp -implicitDefEqProofs
 refine Aa (hC a b ha (ml hb)) ?_
 simp -implicitDefEqProofs
 refine Aa (hA a (ml ha)) ?_
 by_cases h1:AQ a=true
 rotate_left
 ·simp -implicitDefEqProofs [h1,AJ]
 simp -implicitDefEqProofs [h1]
 refine Aa (hA b (ml hb)) ?_
 by_cases h2:AQ b=true
 rotate_left
 ·simp -implicitDefEqProofs [h2,AJ]
 have e:AJ a b=Sw (common a b):=by unfold AJ;rw[if_pos ⟨h1,h2⟩]
 rw[e]
 by_cases h3:common a b=[]
 ·simp -implicitDefEqProofs [h2,h3,Sw]
 have h4:0<(common a b).length:=List.length_pos_iff.2 h3
 have h5:=Akj (l:=common a b) ((Ru h1).filter _) (fun x hx=>by have:=RF h1 x (List.mem_filter.1 hx).1;omega) h4
 rw[h5]
 generalize common a b=l at h3 h4 hcl
 have hw:IntKind.i64.wrap ((l.length:Int)-1)=((l.length-1:Nat):Int):=by rw[Ad (by omega) (by omega)];omega
 have h6:l.length-1<l.length:=by omega
 simp -implicitDefEqProofs [h2,h3,hw,h6,h4]
def Le {α:Type} (p:α->Bool):List α->Nat->List Int
 | [],_=> []
 | x::r,i=>if p x then(i:Int)::Le p r (i+1)else Le p r (i+1)
theorem XM {α:Type} {p:α->Bool} (b:List α):∀(a:List α) (i:Nat),Le p (a++b) i=Le p a i++Le p b (i+a.length)
 | [],i=>by simp[Le]
 | x::r,i=>by
  have:=XM (p:=p) b r (i+1)
  simp only[List.cons_append,Le,this,List.length_cons]
  rw[show i+1+r.length=i+(r.length+1)by omega]
  by_cases h:p x=true<;>simp[h]
theorem Alt {α:Type} {p:α->Bool} {xs:List α} {j:Nat} (h:j<xs.length):Le p (xs.take (j+1)) 0=Le p (xs.take j) 0++(if p xs[j]then [(j:Int)]else []):=by
 have e:xs.take (j+1)=xs.take j++ [xs[j]]:=by simp
 rw[e,XM]
 have hl:(xs.take j).length=j:=by simp;omega
 by_cases hp:p xs[j]=true<;>simp[Le,hp,hl]
theorem AmA {α:Type} {p:α->Bool} {xs:List α} {j:Nat} (h:xs.length<=j):Le p (xs.take j) 0=Le p xs 0:=by rw[List.take_of_length_le h]
theorem Af3 {α:Type} {p:α->Bool}:∀(xs:List α) (i:Nat),(Le p xs i).length<=xs.length
 | [],_=>by simp[Le]
 | x::r,i=>by
  have:=Af3 (p:=p) r (i+1)
  by_cases h:p x=true
  ·simp[Le,h];omega
  ·simp[Le,h];omega
theorem Aie {w:World} (h:Af w<=4194304) {j:Nat} (hj:j<w.ends.length):w.ends[j].versions.length<=maxLen:=by
 have:=size_at (f:=Am) hj
 have e:Am w.ends[j]=w.ends[j].versions.length+w.ends[j].tags.length+Cr Gm w.ends[j].path:=rfl
 unfold Af at h
 unfold maxLen;omega
set_option maxHeartbeats 1000000
def I8 (xs:List (List Int)):List V:=xs.map fun l=> .sl 0 1 l.length (ints l)
@[simp high] theorem Aro (xs:List (List Int)):(I8 xs).length=xs.length:=by simp[I8]
@[simp] theorem Ard:I8 []=[]:=rfl
@[simp] theorem ArA (xs:List (List Int)):(I8 xs).map (AO 0)=I8 xs:=by simp[I8,Function.comp_def,AO]
@[simp high] theorem ArI {xs:List (List Int)} {j:Nat} (h:j<xs.length):(I8 xs)[j]? =some (V.sl 0 1 xs[j].length (ints xs[j])):=by simp[I8,h]
theorem Ah1 (xs:List (List Int)) (l:List Int) {n:Nat} (h:n=l.length):I8 xs++ [.sl 0 1 n (ints l)]=I8 (xs++ [l]):=by subst h;simp[I8]
def GR (xs:List (List Int)):Nat:=Cr List.length xs
theorem Uz {xs:List (List Int)} {j:Nat} (h:j<xs.length):xs[j].length<=GR xs:=size_at (f:=List.length) h
theorem Ms {xs:List (List Int)}:xs.length<=GR xs:=J9
def Fh (w:World):List (List Int):=w.ends.map (·.versions)
abbrev Q8:Prop:=∀w:World,Af w<=4194304->R [arg (Bu w)] [] (.sl 0 1 (Fh w).length (I8 (Fh w))) []
theorem Aih {xs:List Ai} {j:Nat} (h:j<xs.length):I8 ((xs.map (·.versions)).take j)++ [.sl 0 1 xs[j].versions.length (ints xs[j].versions)]=I8 ((xs.map (·.versions)).take (j+1)):=by
 have h':j<(xs.map (·.versions)).length:=by simpa using h
 have e:(xs.map (·.versions)).take (j+1)=(xs.map (·.versions)).take j++ [xs[j].versions]:=by
  have:=List.take_append_getElem h'
  rw[<-this];simp
 rw[e,Ah1 _ _ rfl]
theorem AhN:Q8 (Body D NK):=by
 intro w h
 have hl:=FE h
 have hres:Fh w=w.ends.map (·.versions):=rfl
 rw[hres]
 simp -implicitDefEqProofs
 refine Ag (fun k s=>∃j o2 o3 o4 o5,j+k=w.ends.length/\s=⟨[.undef,.ptr 0 0,.undef,.arr 6,.sc (.int .i64 j),.undef],[.var ((Bu w).map (AO 1)),.free,o2,o3,o4,o5,.arr 1 0 j (I8 ((w.ends.take j).map (·.versions)))]⟩) ?_ w.ends.length _ ⟨0,.free,.free,.free,.free,by simp,by simp⟩
 intro k s ⟨j,o2,o3,o4,o5,hj,hs⟩
 subst hs
 by_cases hjn:j<w.ends.length
 ·have hw:=Cv (j:=j) (by omega)
  have hst:=Aih hjn
  have hvl:=Aie h hjn
  unfold maxLen at hvl
  have h2:w.ends[j].versions.length<=4194304:=by
   have:=size_at (f:=Am) hjn
   have e:Am w.ends[j]=w.ends[j].versions.length+w.ends[j].tags.length+Cr Gm w.ends[j].path:=rfl
   unfold Af at h
   omega
  have hb:w.ends[j].versions.length*8<=1099511627776:=by omega
  have hb2:(j+1)*24<=1099511627776:=by omega
  have hjl:min j w.ends.length=j:=by omega
  simp -implicitDefEqProofs [hjn,hb,hb2,hjl]
  exact⟨k-1,by omega,j+1,by omega,by simp[hw],rfl,hst⟩
 ·obtain rfl:j=w.ends.length:=by omega
  simp -implicitDefEqProofs
abbrev KZ (ls:List (List Int)):V:= .sl 1 1 ls.length (I8 ls)
def Aaa (s:List Int) (v:Int) (l:List Int):Bool:=decide (AJ s l=v)
def SN (s:List Int) (ls:List (List Int)) (v:Int):Nat:=if 1<=v then cntF (Aaa s v) ls else 0
abbrev Ae1:Prop:=∀(s:List Int) (ls:List (List Int)) (v:Int),s.length<=4194304->GR ls<=4194304->R [.sl 1 1 s.length (ints s),KZ ls,I v] [] (I (SN s ls v)) []
theorem Anj (hB:FQ (D 168)):Ae1 (Body D Ra):=by
 intro s ls v hs0 hl
 have hll:=Ms (xs:=ls)
 by_cases hv:1<=v
 rotate_left
 ·have e:SN s ls v=0:=by unfold SN;rw[if_neg hv]
  simp -implicitDefEqProofs [e]
  refine Ag (fun k st=>st=⟨[.sl 1 1 s.length (ints s),KZ ls,I v,.undef,.sc (.int .i64 0),.sc (.int .i64 0),.undef,.undef],[]⟩) ?_ 0 _ (by simp)
  intro k st hs
  subst hs
  by_cases h0:0<ls.length
  ·have h0':(0:Int)<ls.length:=by omega
   simp -implicitDefEqProofs [hv,h0,h0']
  ·have h0':¬(0:Int)<ls.length:=by omega
   simp -implicitDefEqProofs [hv,h0,h0']
 have e:SN s ls v=cntF (Aaa s v) ls:=by unfold SN;rw[if_pos hv]
 rw[e]
 simp -implicitDefEqProofs
 refine Ag (fun k st=>∃j,j+k=ls.length/\st=⟨[.sl 1 1 s.length (ints s),KZ ls,I v,.undef,.sc (.int .i64 (cntF (Aaa s v) (ls.take j))),.sc (.int .i64 j),.undef,.undef],[]⟩) ?_ ls.length _ ⟨0,by simp,by simp[cntF]⟩
 intro k st ⟨j,hj,hs⟩
 subst hs
 by_cases hjn:j<ls.length
 ·have hw:=Cv (j:=j) (by omega)
  have hc:=AaP (f:=Aaa s v) hjn
  have hcl:=Afa (f:=Aaa s v) (xs:=ls) (j:=j) (by omega)
  have hw2:IntKind.i64.wrap ((cntF (Aaa s v) (ls.take j):Int)+1)=(cntF (Aaa s v) (ls.take j)+1:Nat):=by rw[Ad (by omega) (by omega)];simp
  have hra:=Uz hjn
  simp -implicitDefEqProofs [hjn,hv]
  refine Aa (hB s _ hs0 (by omega)) ?_
  by_cases he:AJ s ls[j]=v
  ·simp -implicitDefEqProofs [he]
   exact⟨k-1,by omega,j+1,by omega,by rw[hc,hw2];simp[Aaa,he],by simp[hw]⟩
  ·simp -implicitDefEqProofs [he]
   exact⟨k-1,by omega,j+1,by omega,by rw[hc];simp[Aaa,he],by simp[hw]⟩
 ·have hx:=Afj (f:=Aaa s v) (xs:=ls) (j:=j) (by omega)
  simp -implicitDefEqProofs [hjn,hx]
def Zk (s:List Int) (v:Int) (l:List Int):Bool:=decide (0<AJ s l)&&decide (AJ (Co s v) l=0)
def Kj (s:List Int) (ls:List (List Int)) (v:Int):List Int:=Le (Zk s v) ls 0
abbrev Ry:Prop:=∀(s:List Int) (ls:List (List Int)) (v:Int),s.length<=4194304->GR ls<=4194304->R [.sl 1 1 s.length (ints s),KZ ls,I v] [] (.sl 0 1 (Kj s ls v).length (ints (Kj s ls v))) []
theorem Ahm (hB:FQ (D 168)) (hW:Ic (D 167)):Ry (Body D L8):=by
 intro s ls v hs0 hl
 have hll:=Ms (xs:=ls)
 have hres:Kj s ls v=Le (Zk s v) ls 0:=rfl
 have hwl:=List.length_filter_le (fun x=> !decide (x=v)) s
 rw[hres]
 simp -implicitDefEqProofs
 refine Aa (hW s v hs0) ?_
 simp -implicitDefEqProofs
 refine Ag (fun k st=>∃j o2 o3,j+k=ls.length/\st=⟨[.sl 1 1 s.length (ints s),KZ ls,.undef,.undef,.arr 4,.arr 1,.sc (.int .i64 j),.undef,.undef],[.free,.arr 1 0 (Co s v).length (ints (Co s v)),o2,o3,.arr 1 0 (Le (Zk s v) (ls.take j) 0).length (ints (Le (Zk s v) (ls.take j) 0))]⟩) ?_ ls.length _ ⟨0,.free,.free,by simp,by simp[Le]⟩
 intro k st ⟨j,o2,o3,hj,hs⟩
 subst hs
 by_cases hjn:j<ls.length
 ·have hw:=Cv (j:=j) (by omega)
  have hst:=Alt (p:=Zk s v) hjn
  have hln:=Af3 (p:=Zk s v) (ls.take j) 0
  have htl:(ls.take j).length<=j:=by simp;omega
  have hb:((Le (Zk s v) (ls.take j) 0).length+1)*8<=1099511627776:=by omega
  have hra:=Uz hjn
  simp -implicitDefEqProofs [hjn]
  refine Aa (hB s _ hs0 (by omega)) ?_
  by_cases h1:0<AJ s ls[j]
  rotate_left
  ·rw[if_neg (by simp[Zk,h1]),List.append_nil]at hst
   simp -implicitDefEqProofs [h1]
   exact⟨k-1,by omega,j+1,by omega,by simp[hw],by rw[hst],by rw[hst]⟩
  simp -implicitDefEqProofs [h1,hjn]
  refine Aa (hB (Co s v) ls[j] (by unfold Co;omega) (by omega)) ?_
  by_cases h2:AJ (Co s v) ls[j]=0
  ·rw[if_pos (by simp[Zk,h1,h2])]at hst
   simp -implicitDefEqProofs [h2,hb]
   exact⟨k-1,by omega,j+1,by omega,by simp[hw],by rw[hst];simp,by rw[hst]⟩
  ·rw[if_neg (by simp[Zk,h1,h2]),List.append_nil]at hst
   simp -implicitDefEqProofs [h2]
   exact⟨k-1,by omega,j+1,by omega,by simp[hw],by rw[hst],by rw[hst]⟩
 ·have hx:=AmA (p:=Zk s v) (xs:=ls) (j:=j) (by omega)
  simp -implicitDefEqProofs [hjn,hx]
theorem AmE (s:List Int) (ls:List (List Int)) (v:Int):SN s ls v<=ls.length:=by
 unfold SN
 split
 ·have:=Afa (f:=Aaa s v) (xs:=ls) (j:=ls.length) (by omega)
  rwa [List.take_length]at this
 ·omega
def FP (s:List Int) (ls:List (List Int)) (v pm:Int):Bool:=AQ s&&(decide (v∈s)&&(!decide (s.length=1)&&(decide (InV pm 0 1000)&&(decide (Kj s ls v=[])&&decide (1000*(SN s ls v:Int)<=pm*(ls.length:Int))))))
abbrev PG:Prop:=∀(s:List Int) (ls:List (List Int)) (v pm:Int),s.length<=4194304->GR ls<=4194304->R [.sl 1 1 s.length (ints s),KZ ls,I v,I pm] [] (B (FP s ls v pm)) []
theorem Ae7 (hA:Dr (D 208)) (hH:UQ (D 166)) (hI:Vf (D 71)) (hS:Ry (D 96)) (hU:Ae1 (D 255)):PG (Body D KF):=by
 intro s ls v pm hs0 hl
 have hll:=Ms (xs:=ls)
 simp -implicitDefEqProofs
 refine Aa (hA s (by unfold maxLen;omega)) ?_
 by_cases h1:AQ s=true
 rotate_left
 ·simp -implicitDefEqProofs [h1,FP]
 simp -implicitDefEqProofs [h1]
 refine Aa (hH s v (by unfold maxLen;omega)) ?_
 by_cases h2:v∈s
 rotate_left
 ·simp -implicitDefEqProofs [h1,h2,FP]
 by_cases h3:s.length=1
 ·have h3':(s.length:Int)=1:=by omega
  simp -implicitDefEqProofs [h1,h2,h3,h3',FP]
 have h3':¬(s.length:Int)=1:=by omega
 simp -implicitDefEqProofs [h1,h2,h3,h3']
 refine Aa (hI _ _ _) ?_
 by_cases h4:InV pm 0 1000
 rotate_left
 ·simp -implicitDefEqProofs [h1,h2,h3,h3',h4,FP]
 simp -implicitDefEqProofs [h3,h3',h4]
 refine Aa (hS s ls v hs0 hl) ?_
 by_cases h5:(Kj s ls v).length=0
 rotate_left
 ·have h5':¬((Kj s ls v).length:Int)=0:=by omega
  have h5'':¬Kj s ls v=[]:=by intro h;rw[h]at h5;simp at h5
  simp -implicitDefEqProofs [h5,h5',h5'',h1,h2,h3,h4,FP]
 have h5'':Kj s ls v=[]:=List.eq_nil_of_length_eq_zero h5
 simp -implicitDefEqProofs [h5'']
 refine Aa (hU s ls v hs0 hl) ?_
 have hu:=AmE s ls v
 have w1:IntKind.i64.wrap (1000*(SN s ls v:Int))=1000*(SN s ls v:Int):=Ad (by omega) (by omega)
 have w2:IntKind.i64.wrap (pm*(ls.length:Int))=pm*(ls.length:Int):=by
  have a1:0<=pm*(ls.length:Int):=Int.mul_nonneg h4.1 (by omega)
  have a2:pm*(ls.length:Int)<=1000*4194304:=Int.mul_le_mul h4.2 (by omega) (by omega) (by omega)
  exact Ad (by omega) (by omega)
 simp -implicitDefEqProofs [h1,h2,h3,h3',h4,h5'',w1,w2,FP]
def GN (s:List Int) (ls:List (List Int)) (v pm:Int):List Int×Bool:=if FP s ls v pm=true then(Co s v,true)else(s,false)
abbrev IG:Prop:=∀(s:List Int) (ls:List (List Int)) (v pm:Int),s.length<=4194304->GR ls<=4194304->R [.sl 1 1 s.length (ints s),KZ ls,I v,I pm] [] (.tup [.sl 0 1 (GN s ls v pm).1.length (ints (GN s ls v pm).1),B (GN s ls v pm).2]) []
theorem Xt (hM:PG (D 216)) (hW:Ic (D 167)):IG (Body D GQ):=by
 intro s ls v pm hs0 hl
 have hll:=Ms (xs:=ls)
 have hb:s.length*8<=1099511627776:=by omega
 simp -implicitDefEqProofs
 refine Aa (hM s ls v pm hs0 hl) ?_
 by_cases h1:FP s ls v pm=true
 rotate_left
 ·have e:GN s ls v pm=(s,false):=by unfold GN;rw[if_neg h1]
  simp -implicitDefEqProofs [h1,e,hb]
 have e:GN s ls v pm=(Co s v,true):=by unfold GN;rw[if_pos h1]
 simp -implicitDefEqProofs [h1,e]
 refine Aa (hW s v hs0) ?_
 simp -implicitDefEqProofs [h1,e]
theorem Ahq {w:World} (h:Af w<=4194304):w.server.length<=4194304:=by unfold Af at h;omega
theorem Ap5 (xs:List Ai):GR (xs.map (·.versions))<=Cr Am xs:=by
 induction xs with
 | nil=>simp[GR,Cr]
 | cons x r ih=>
  simp only[GR,Cr,List.map_cons,List.sum_cons,List.length_cons,Am,List.length_map]at *
  omega
theorem Ahj {w:World} (h:Af w<=4194304):GR (Fh w)<=4194304:=by
 have:=Ap5 w.ends
 unfold Af at h
 unfold Fh
 omega
def Br (w:World) (v pm:Int):World×Bool:=if(GN w.server (Fh w) v pm).2=true/\¬v=w.rollout.version then({w with server:=(GN w.server (Fh w) v pm).1},true)else(w,false)
abbrev MZ:Prop:=∀(w:World) (v pm:Int),Af w<=4194304->R [arg (Bu w),I v,I pm] [] (.tup [.agg (Bu (Br w v pm).1),B (Br w v pm).2]) []
theorem AcI (hC:EF (D 22)) (hL:Q8 (D 95)) (hR:IG (D 150)):MZ (Body D Jq):=by
 intro w v pm h
 simp -implicitDefEqProofs
 refine Aa (hC w h) ?_
 simp -implicitDefEqProofs
 refine Aa (hL w h) ?_
 simp -implicitDefEqProofs
 refine Aa (hR w.server (Fh w) v pm (Ahq h) (Ahj h)) ?_
 by_cases h1:(GN w.server (Fh w) v pm).2=true
 rotate_left
 ·have e:Br w v pm=(w,false):=by unfold Br;rw[if_neg (by simp[h1])]
  simp -implicitDefEqProofs [h1,e]
 by_cases h2:v=w.rollout.version
 ·subst h2
  have e:Br w w.rollout.version pm=(w,false):=by unfold Br;rw[if_neg (by simp)]
  simp -implicitDefEqProofs [h1,e]
 have e:Br w v pm=({w with server:=(GN w.server (Fh w) v pm).1},true):=by unfold Br;rw[if_pos ⟨h1,h2⟩]
 simp -implicitDefEqProofs [h1,h2,e]
set_option maxHeartbeats 1000000
def leftOf (a b:List Int):List Int:=a.filter fun v=> !decide (v∈b)
abbrev AfF:Prop:=∀a b:List Int,a.length<=4194304->b.length<=4194304->R [.sl 1 1 a.length (ints a),.sl 1 1 b.length (ints b)] [] (.sl 0 1 (leftOf a b).length (ints (leftOf a b))) []
theorem AlH (hH:UQ (D 166)):AfF (Body D NC):=by
 intro a b ha hb
 have hres:leftOf a b=a.filter (fun v=> !decide (v∈b)):=rfl
 rw[hres]
 simp -implicitDefEqProofs
 refine Ag (fun k s=>∃j o1 o2,j+k=a.length/\s=⟨[.sl 1 1 a.length (ints a),.sl 1 1 b.length (ints b),.undef,.arr 3,I j,.undef,.undef],[.free,o1,o2,.arr 1 0 ((a.take j).filter (fun v=> !decide (v∈b))).length (ints ((a.take j).filter (fun v=> !decide (v∈b))))]⟩) ?_ (a.length) _ ⟨0,.free,.free,by simp,by simp⟩
 intro k s ⟨j,o1,o2,hj,hs⟩
 subst hs
 by_cases hjn:j<a.length
 ·have hw:=Cv (j:=j) (by omega)
  have hst:=LD (p:=fun v=> !decide (v∈b)) hjn
  have hln:=Oa (p:=fun v=> !decide (v∈b)) (xs:=a) (j:=j)
  have hbd:(((a.take j).filter (fun v=> !decide (v∈b))).length+1)*8<=1099511627776:=by omega
  simp -implicitDefEqProofs [hjn]
  refine Aa (hH b _ (by unfold maxLen;omega)) ?_
  by_cases h1:a[j]∈b
  ·rw[if_neg (by simp[h1]),List.append_nil]at hst
   simp -implicitDefEqProofs [h1,hjn,hbd]
   exact⟨k-1,by omega,j+1,by omega,by simp[hw],by rw[hst],by rw[hst]⟩
  ·rw[if_pos (by simp[h1])]at hst
   simp -implicitDefEqProofs [h1,hjn,hbd]
   exact⟨k-1,by omega,j+1,by omega,by simp[hw],by rw[hst];simp,by rw[hst]⟩
 ·have hx:=N7 (p:=fun v=> !decide (v∈b)) (xs:=a) (j:=j) (by omega)
  simp -implicitDefEqProofs [hjn,hx]
def upTo (xs:List Int) (i:Nat):Bool:=decide (i=0)||decide (xs.getD (i-1) 0<xs.getD i 0)
def FI (xs:List Int):Bool:=Oj (upTo xs) xs.length&&allIn xs 0 255
abbrev VF:Prop:=∀xs:List Int,xs.length<=maxLen->R [.sl 1 1 xs.length (ints xs)] [] (B (FI xs)) []
theorem Ya {xs:List Int} {j:Nat} (h:j<xs.length) (hn:¬M6 xs[j] 0 255):FI xs=false:=by unfold FI;rw[Ahh h hn];simp
theorem XV {xs:List Int} {j:Nat} (h:j<xs.length) (hn:upTo xs j=false):FI xs=false:=by unfold FI;rw[AhE h hn];simp
theorem Xk (xs:List Int):upTo xs 0=true:=by simp[upTo]
theorem VI {xs:List Int} {j:Nat} (h0:¬j=0) (h:j<xs.length) (h':j-1<xs.length):upTo xs j=decide (xs[j-1]<xs[j]):=by
 unfold upTo
 rw[VG h,VG h']
 simp[h0]
theorem Aiw (hI:Vf (D 71)):VF (Body D Nz):=by
 intro xs hl
 unfold maxLen at hl
 simp -implicitDefEqProofs
 refine Ag (fun k s=>∃j,j+k=xs.length/\allIn (xs.take j) 0 255=true/\Oj (upTo xs) j=true/\s=⟨[.sl 1 1 xs.length (ints xs),.undef,I j,.undef,.undef],[]⟩) ?_ (xs.length) _ ⟨0,by simp,by simp[allIn],by simp,by simp⟩
 intro k s ⟨j,hj,hp,hr,hs⟩
 subst hs
 by_cases hjn:j<xs.length
 ·have hw:=Cv (j:=j) (by omega)
  have hst:=LY (upTo xs) j
  rw[hr,Bool.true_and]at hst
  simp -implicitDefEqProofs [hjn]
  refine Aa (hI _ _ _) ?_
  by_cases h1:M6 xs[j] 0 255
  rotate_left
  ·simp -implicitDefEqProofs [h1,Ya hjn h1]
  by_cases h0:j=0
  ·subst h0
   simp -implicitDefEqProofs [h1]
   exact⟨k-1,by omega,1,by omega,by rw[LU hjn,hp];simp[h1],by rw[hst,Xk],by simpa using hw⟩
  ·have hw2:IntKind.i64.wrap ((j:Int)-1)=((j-1:Nat):Int):=by rw[Ad (by omega) (by omega)];omega
   have h2:(0:Int)<j:=by omega
   have h2':0<j:=by omega
   have h3:j-1<xs.length:=by omega
   rw[VI h0 hjn h3]at hst
   by_cases h4:xs[j-1]<xs[j]
   ·have h4':¬xs[j]<=xs[j-1]:=by omega
    simp -implicitDefEqProofs [h1,h2,h2',hw2,h3,hjn,h4']
    exact⟨k-1,by omega,j+1,by omega,by rw[LU hjn,hp];simp[h1],by rw[hst];simp[h4],by simp[hw]⟩
   ·have e:=XV hjn (by rw[VI h0 hjn h3];simp[h4])
    have h4':xs[j]<=xs[j-1]:=by omega
    simp -implicitDefEqProofs [h1,h2,h2',hw2,h3,hjn,h4',e]
 ·obtain rfl:j=xs.length:=by omega
  have e:FI xs=true:=by unfold FI;rw[hr,Wt (by omega) hp];rfl
  simp -implicitDefEqProofs [e]
def Au (e:Ai):Bool:=AQ e.versions&&(decide (e.tags.length<=5)&&(FI e.tags&&(!e.tags.any BH&&(decide (e.path.length<=4)&&(e.path.all IL&&decide (M6 e.cls 0 5))))))
abbrev Ij:Prop:=∀e:Ai,AbY e->R [arg (Ah e)] [] (B (Au e)) []
theorem Ac1 (hI:Vf (D 71)) (hR:Ib (D 250)) (hX:XD (D 152)) (hA:Dr (D 208)):Ij (Body D JC):=by
 intro e hl
 obtain⟨hl1,hl2,hl3⟩:=hl
 have hl4:=hl3.1
 have hl2':=hl2
 unfold Nr at hl2
 unfold maxLen at hl2 hl4
 simp -implicitDefEqProofs
 refine Ag (fun k s=>∃j,j+k=e.tags.length/\allIn (e.tags.take j) 0 255=true/\Oj (upTo e.tags) j=true/\(e.tags.take j).any BH=false/\s=⟨[.undef,.ptr 0 0,.undef,I j,.undef,.undef,.undef,.undef,.undef],[.var ((Ah e).map (AO 1))]⟩) ?_ (e.tags.length) _ ⟨0,by simp,by simp[allIn],by simp,by simp,by simp⟩
 intro k s ⟨j,hj,hp,hr,hq,hs⟩
 subst hs
 by_cases hjn:j<e.tags.length
 ·have hw:=Cv (j:=j) (by omega)
  have hst:=LY (upTo e.tags) j
  rw[hr,Bool.true_and]at hst
  have hsq:=Abh (p:=BH) hjn
  rw[hq,Bool.false_or]at hsq
  simp -implicitDefEqProofs [hjn]
  refine Aa (hI _ _ _) ?_
  by_cases h1:M6 e.tags[j] 0 255
  rotate_left
  ·have e0:Au e=false:=by unfold Au;rw[Ya hjn h1];simp
   simp -implicitDefEqProofs [h1,e0]
  simp -implicitDefEqProofs [h1,hjn]
  refine Aa (hR _) ?_
  by_cases h5:BH e.tags[j]=true
  ·have e0:Au e=false:=by unfold Au;rw[QR hjn h5];simp
   simp -implicitDefEqProofs [h5,e0]
  have h5':BH e.tags[j]=false:=by simpa using h5
  by_cases h0:j=0
  ·subst h0
   simp -implicitDefEqProofs [h1,h5']
   exact⟨k-1,by omega,1,by omega,by rw[LU hjn,hp];simp[h1],by rw[hst,Xk],by simpa using hsq.trans h5',by simpa using hw⟩
  ·have hw2:IntKind.i64.wrap ((j:Int)-1)=((j-1:Nat):Int):=by rw[Ad (by omega) (by omega)];omega
   have h2:(0:Int)<j:=by omega
   have h2':0<j:=by omega
   have h3:j-1<e.tags.length:=by omega
   rw[VI h0 hjn h3]at hst
   by_cases h4:e.tags[j-1]<e.tags[j]
   ·have h4':¬e.tags[j]<=e.tags[j-1]:=by omega
    simp -implicitDefEqProofs [h1,h5',h2,h2',hw2,h3,hjn,h4']
    exact⟨k-1,by omega,j+1,by omega,by rw[LU hjn,hp];simp[h1],by rw[hst];simp[h4],by simpa using hsq.trans h5',by simp[hw]⟩
   ·have e0:Au e=false:=by unfold Au;rw[XV hjn (by rw[VI h0 hjn h3];simp[h4])];simp
    have h4':e.tags[j]<=e.tags[j-1]:=by omega
    simp -implicitDefEqProofs [h1,h5',h2,h2',hw2,h3,hjn,h4',e0]
 obtain rfl:j=e.tags.length:=by omega
 have et:FI e.tags=true:=by unfold FI;rw[hr,Wt (by omega) hp];rfl
 have er:e.tags.any BH=false:=any_none (by omega) hq
 simp -implicitDefEqProofs
 refine Ag (fun k s=>∃j,j+k=e.path.length/\(e.path.take j).all IL=true/\s=⟨[.undef,.ptr 0 0,.undef,.undef,I j,.undef,.undef,.undef,.undef],[.var ((Ah e).map (AO 1))]⟩) ?_ (e.path.length) _ ⟨0,by simp,by simp,by simp⟩
 intro k s ⟨j,hj,hb,hs⟩
 subst hs
 by_cases hjn:j<e.path.length
 ·have hw:=Cv (j:=j) (by omega)
  have hst:=Qm (p:=IL) hjn
  rw[hb,Bool.true_and]at hst
  simp -implicitDefEqProofs [hjn]
  refine Aa (hX _ (hl3.2 j hjn)) ?_
  by_cases h1:IL e.path[j]=true
  ·simp -implicitDefEqProofs [h1]
   exact⟨k-1,by omega,j+1,by omega,by simpa using hst.trans h1,by simp[hw]⟩
  ·have e0:Au e=false:=by unfold Au;rw[NP hjn (by simpa using h1)];simp
   simp -implicitDefEqProofs [h1,e0]
 have eb:e.path.all IL=true:=by rw[<-VW (j:=j) (by omega),hb]
 simp -implicitDefEqProofs [hjn]
 refine Aa (hA _ hl1) ?_
 by_cases g1:AQ e.versions=true
 rotate_left
 ·simp -implicitDefEqProofs [g1,Au]
 by_cases g2:e.tags.length<=5
 rotate_left
 ·have g2':¬(e.tags.length:Int)<=5:=by omega
  simp -implicitDefEqProofs [g1,g2,g2',Au]
 have g2':(e.tags.length:Int)<=5:=by omega
 by_cases g3:e.path.length<=4
 rotate_left
 ·have g3':¬(e.path.length:Int)<=4:=by omega
  simp -implicitDefEqProofs [g1,g2,g2',g3,g3',Au]
 have g3':(e.path.length:Int)<=4:=by omega
 simp -implicitDefEqProofs [g1,g2',g3']
 refine Aa (hI _ _ _) ?_
 have ee:Au e=decide (M6 e.cls 0 5):=by unfold Au;rw[et,er,eb];simp[g1,g2,g3]
 simp -implicitDefEqProofs [ee]
theorem Ap2 {b:EG} (h:Gm b<=4194304):Kh b:=by
 unfold Gm at h
 exact⟨by unfold Nr maxLen;omega,by unfold Nr maxLen;omega⟩
theorem Aeg {p:List EG} (h:Cr Gm p<=4194304):lnS Kh p:=
 ⟨by have:=J9 (f:=Gm) (xs:=p);unfold maxLen;omega,fun j hj=>Ap2 (by have:=size_at (f:=Gm) hj;omega)⟩
theorem AhO {e:Ai} (h:Am e<=4194304):AbY e:=by
 unfold Am at h
 exact⟨by unfold Nr maxLen;omega,by unfold Nr maxLen;omega,Aeg (by omega)⟩
theorem AdH {w:World} (h:Af w<=4194304) {n:Nat} (hn:n<w.ends.length):Am w.ends[n]<=4194304:=by
 have:=size_at (f:=Am) hn
 have:=(Od h).2.2.1
 omega
theorem Adq {e:Ai} (h:Am e<=4194304):e.versions.length<=4194304:=by unfold Am at h;omega
theorem Am3 (path:List EG) (vs:List Int):(BZ path vs).length<=vs.length:=by
 unfold BZ
 split
 ·exact List.length_filter_le _ _
 ·simp
set_option maxHeartbeats 2000000
def reach (s l:List Int):Bool:= !decide (AJ s l=0)
def FY (s:List Int) (ls:List (List Int)):Bool:=AQ s&&ls.all (reach s)
abbrev RP:Prop:=∀(s:List Int) (ls:List (List Int)),s.length<=4194304->GR ls<=4194304->R [.sl 1 1 s.length (ints s),KZ ls] [] (B (FY s ls)) []
theorem AhG (hB:FQ (D 168)) (hA:Dr (D 208)):RP (Body D LQ):=by
 intro sv ls hs hl
 have hll:=Ms (xs:=ls)
 simp -implicitDefEqProofs
 refine Ag (fun k s=>∃j,j+k=ls.length/\(ls.take j).all (reach sv)=true/\s=⟨[.sl 1 1 sv.length (ints sv),KZ ls,.undef,I j,.undef,.undef],[]⟩) ?_ (ls.length) _ ⟨0,by simp,by simp,by simp⟩
 intro k s ⟨j,hj,hp,hs⟩
 subst hs
 by_cases hjn:j<ls.length
 ·have hw:=Cv (j:=j) (by omega)
  have hst:=Qm (p:=reach sv) hjn
  rw[hp,Bool.true_and]at hst
  have hra:=Uz hjn
  simp -implicitDefEqProofs [hjn]
  refine Aa (hB sv _ hs (by omega)) ?_
  by_cases h1:AJ sv ls[j]=0
  ·have e:FY sv ls=false:=by unfold FY;rw[NP hjn (by simp[reach,h1])];simp
   simp -implicitDefEqProofs [h1,e,Aqs]
  ·simp -implicitDefEqProofs [h1,Aqs]
   exact⟨k-1,by omega,j+1,by omega,by simpa using hst.trans (show reach sv ls[j]=true by simp[reach,h1]),by simp[hw]⟩
 ·have e:FY sv ls=AQ sv:=by unfold FY;rw[<-VW (j:=j) (by omega),hp];simp
  simp -implicitDefEqProofs [hjn]
  refine Aa (hA sv (by unfold maxLen;omega)) ?_
  simp -implicitDefEqProofs [e]
def Mj (k:Int):Bool:=decide (M6 k 1 2147483646)
abbrev Oe:Prop:=∀k:Int,R [I k] [] (B (Mj k)) []
theorem Aht (hI:Vf (D 71)):Oe (Body D Jd):=by
 intro k
 simp -implicitDefEqProofs
 refine Aa (hI _ _ _) ?_
 simp -implicitDefEqProofs [Mj]
def Ke (w:World):Bool:=FY w.server (Fh w)&&(FI w.tags&&Mj w.key)
def FM (w:World):Bool:=AP w.rollout&&(decide (w.rollout.version∈w.server)&&(decide (M6 w.least 1 100)&&decide (M6 w.percent 0 100)))
def Es (w:World):Bool:=decide (w.stage.length<=60)&&(decide (w.log.length<=60)&&(decide (M6 w.now 0 10000)&&(decide (M6 w.hurt 0 w.log.length)&&decide (M6 w.reached 0 w.rollout.stages.length))))
def Ap (w:World):Bool:=Ke w&&(decide (w.ends.length<=6)&&(w.ends.all Au&&(FM w&&Es w)))
abbrev U3:Prop:=∀w:World,Af w<=4194304->R [arg (Bu w)] [] (B (Ap w)) []
theorem Aij (hE:Ij (D 207)) (hV:Dr (D 208)) (hT:VF (D 209)) (hK:Oe (D 210)) (hR:FX (D 145)) (hH:UQ (D 166)) (hL:Q8 (D 95)) (hA:RP (D 211)) (hI:Vf (D 71)):U3 (Body D M8):=by
 intro w hsz
 have hs:=Od hsz
 have he:=FE hsz
 simp -implicitDefEqProofs
 refine Ag (fun k s=>∃j,j+k=w.ends.length/\(w.ends.take j).all Au=true/\s=⟨[.undef,.ptr 0 0,.undef,I j,.undef,.undef,.undef],[.var ((Bu w).map (AO 1)),.free]⟩) ?_ (w.ends.length) _ ⟨0,by simp,by simp,by simp⟩
 intro k s ⟨j,hj,hp,hs⟩
 subst hs
 by_cases hjn:j<w.ends.length
 ·have hw:=Cv (j:=j) (by omega)
  have hst:=Qm (p:=Au) hjn
  rw[hp,Bool.true_and]at hst
  simp -implicitDefEqProofs [hjn]
  refine Aa (hE w.ends[j] (AhO (AdH hsz hjn))) ?_
  by_cases h1:Au w.ends[j]=true
  ·simp -implicitDefEqProofs [h1]
   exact⟨k-1,by omega,j+1,by omega,by simpa using hst.trans h1,by simp[hw]⟩
  ·have e:Ap w=false:=by unfold Ap;rw[NP hjn (by simpa using h1)];simp
   simp -implicitDefEqProofs [h1,e]
 have hq':w.ends.all Au=true:=by rw[<-VW (j:=j) (by omega),hp]
 simp -implicitDefEqProofs [hjn]
 refine Aa (hV w.server (by unfold maxLen;omega)) ?_
 by_cases v1:AQ w.server=true
 rotate_left
 ·simp -implicitDefEqProofs [v1,Ap,Ke,FY]
 simp -implicitDefEqProofs [v1]
 refine Aa (hT w.tags (by unfold maxLen;omega)) ?_
 by_cases a2:FI w.tags=true
 rotate_left
 ·simp -implicitDefEqProofs [a2,Ap,Ke]
 simp -implicitDefEqProofs [a2]
 refine Aa (hK w.key) ?_
 by_cases a3:Mj w.key=true
 rotate_left
 ·simp -implicitDefEqProofs [a3,Ap,Ke]
 by_cases e1:w.ends.length<=6
 rotate_left
 ·have e1':(6:Int)<w.ends.length:=by omega
  simp -implicitDefEqProofs [a3,e1',e1,Ap]
 have e1':¬(6:Int)<w.ends.length:=by omega
 simp -implicitDefEqProofs [a3,e1']
 refine Aa (hR w.rollout (OU hsz)) ?_
 by_cases b1:AP w.rollout=true
 rotate_left
 ·simp -implicitDefEqProofs [b1,Ap,FM]
 simp -implicitDefEqProofs [b1]
 refine Aa (hH w.server _ (by unfold maxLen;omega)) ?_
 by_cases b2:w.rollout.version∈w.server
 rotate_left
 ·simp -implicitDefEqProofs [b2,Ap,FM]
 simp -implicitDefEqProofs [b2]
 refine Aa (hL w hsz) ?_
 simp -implicitDefEqProofs [b2]
 refine Aa (hA w.server (Fh w) hs.1 (Ahj hsz)) ?_
 by_cases a1:FY w.server (Fh w)=true
 rotate_left
 ·simp -implicitDefEqProofs [a1,Ap,Ke]
 simp -implicitDefEqProofs [a1]
 refine Aa (hI _ _ _) ?_
 by_cases b3:M6 w.least 1 100
 rotate_left
 ·simp -implicitDefEqProofs [b3,Ap,FM]
 simp -implicitDefEqProofs [b3]
 refine Aa (hI _ _ _) ?_
 by_cases b4:M6 w.percent 0 100
 rotate_left
 ·simp -implicitDefEqProofs [b4,Ap,FM]
 by_cases c1:w.stage.length<=60
 rotate_left
 ·have c1':¬(w.stage.length:Int)<=60:=by omega
  simp -implicitDefEqProofs [b4,c1',c1,Ap,Es]
 have c1':(w.stage.length:Int)<=60:=by omega
 by_cases c2:w.log.length<=60
 rotate_left
 ·have c2':¬(w.log.length:Int)<=60:=by omega
  simp -implicitDefEqProofs [b4,c1',c2',c2,Ap,Es]
 have c2':(w.log.length:Int)<=60:=by omega
 simp -implicitDefEqProofs [b4,c1',c2']
 refine Aa (hI _ _ _) ?_
 by_cases c3:M6 w.now 0 10000
 rotate_left
 ·simp -implicitDefEqProofs [b4,c1',c2',c3,Ap,Es]
 simp -implicitDefEqProofs [b4,c1',c2',c3]
 refine Aa (hI _ _ _) ?_
 by_cases c4:M6 w.hurt 0 w.log.length
 rotate_left
 ·simp -implicitDefEqProofs [b4,c1',c2',c3,c4,Ap,Es]
 simp -implicitDefEqProofs [b4,c1',c2',c3,c4]
 refine Aa (hI _ _ _) ?_
 have ec:Es w=decide (M6 w.reached 0 w.rollout.stages.length):=by unfold Es;simp[c1,c2,c3,c4]
 have ee:Ap w=Es w:=by unfold Ap Ke FM;rw[hq'];simp[a1,a2,a3,e1,b1,b2,b3,b4]
 simp -implicitDefEqProofs [ee,ec]
def Wl:World:=⟨[],[],0,[],⟨0,[],0,false⟩,0,0,[],[],0,0,0⟩
def Cw (s t:List Int) (es:List Ai) (r:AX):World:=⟨s,t,77,es,r,4,25,[],[],0,0,0⟩
def JV (s t:List Int) (es:List Ai) (r:AX):World×Bool:=if Ap (Cw s t es r)=true then(Cw s t es r,true)else(Wl,false)
abbrev RJ:Prop:=∀(s t:List Int) (es:List Ai) (r:AX),Af (Cw s t es r)<=4194304->R [.sl 1 1 s.length (ints s),.sl 1 1 t.length (ints t),.sl 1 4 es.length (es.flatMap Ah),arg (Dj r)] [] (.tup [.agg (Bu (JV s t es r).1),B (JV s t es r).2]) []
theorem Amh (s t:List Int) (es:List Ai) (r:AX):Af (Cw s t es r)=s.length+t.length+Cr Am es+Db r:=by
 simp[Af,Cw,Cr]
theorem Afw (hC:EF (D 22)) (hW:U3 (D 141)):RJ (Body D LP):=by
 intro s t es r hsz
 simp -implicitDefEqProofs
 refine Aa (hC (Cw s t es r) hsz) ?_
 simp -implicitDefEqProofs [Cw]
 refine Aa (hW (Cw s t es r) hsz) ?_
 generalize hq:Ap (Cw s t es r)=q
 by_cases h1:q=true
 ·have e:JV s t es r=(Cw s t es r,true):=by unfold JV;rw[if_pos (hq.trans h1)]
  simp -implicitDefEqProofs [h1,e,Cw]
 ·have e:JV s t es r=(Wl,false):=by unfold JV;rw[if_neg (by rw[hq];exact h1)]
  simp -implicitDefEqProofs [h1,e,Wl]
set_option maxHeartbeats 1000000
def Wh (p q:Int):Int:=if NJ q 1 1000000000000 then(p.tmod q+q).tmod q else 0
abbrev AnK:Prop:=∀p q:Int,R [I p,I q] [] (I (Wh p q)) []
theorem AjY (p:Int) {q:Int} (h:1<=q):-q<p.tmod q/\p.tmod q<q:=by
 have h1:=Int.tmod_lt_of_pos p (show 0<q by omega)
 have h2:=Int.lt_tmod_of_pos p (show 0<q by omega)
 omega
theorem Aqz (hI:Vf (D 71)):AnK (Body D Xp):=by
 intro p q
 simp -implicitDefEqProofs
 refine Aa (hI _ _ _) ?_
 by_cases h:NJ q 1 1000000000000
 rotate_left
 ·simp -implicitDefEqProofs [h,Wh]
 have h0:¬q=0:=by omega
 have hb:=AjY p (q:=q) (by omega)
 have hw:IntKind.i64.wrap (p.tmod q+q)=p.tmod q+q:=Ad (by omega) (by omega)
 have e:Wh p q=(p.tmod q+q).tmod q:=by unfold Wh;rw[if_pos h]
 simp -implicitDefEqProofs [h,h0,hw,e]
theorem Aet (p:Int) {q:Int} (h:NJ q 1 1000000000000):0<=Wh p q/\Wh p q<q:=by
 unfold Wh
 rw[if_pos h]
 have hb:=AjY p (q:=q) (by omega)
 have h1:=Int.tmod_nonneg q (show 0<=p.tmod q+q by omega)
 have h2:=Int.tmod_lt_of_pos (p.tmod q+q) (show 0<q by omega)
 exact⟨h1,h2⟩
def OZ (s v:Int):Int:=(s*1000003+Wh v 2147483647+13).tmod 2147483647
def hash (xs:List Int):Int:=xs.foldl OZ 11
abbrev AdJ:Prop:=∀xs:List Int,xs.length<=maxLen->R [.sl 1 1 xs.length (ints xs)] [] (I (hash xs)) []
theorem Ak4 {s v:Int} (h:0<=s):0<=OZ s v/\OZ s v<2147483647:=by
 have hm:=Aet v (q:=2147483647) ⟨by omega,by omega⟩
 unfold OZ
 exact⟨Int.tmod_nonneg _ (by omega),Int.tmod_lt_of_pos _ (by omega)⟩
theorem Akn {α:Type} {f:α->Int->α} {xs:List Int} {j:Nat} {a:α} (h:j<xs.length):(xs.take (j+1)).foldl f a=f ((xs.take j).foldl f a) xs[j]:=by
 have e:xs.take (j+1)=xs.take j++ [xs[j]]:=by simp
 rw[e,List.foldl_append];rfl
theorem Ajv:∀(xs:List Int) {a:Int},0<=a->a<2147483647->0<=xs.foldl OZ a/\xs.foldl OZ a<2147483647
 | [],a,h1,h2=>⟨h1,h2⟩
 | x::xs,a,h1,h2=>by
  have:=Ak4 (s:=a) (v:=x) h1
  exact Ajv xs this.1 this.2
theorem AoU (hM:AnK (D 339)):AdJ (Body D TL):=by
 intro xs hl
 unfold maxLen at hl
 simp -implicitDefEqProofs
 refine Ag (fun k s=>∃j,j+k=xs.length/\s=⟨[.sl 1 1 xs.length (ints xs),.undef,I ((xs.take j).foldl OZ 11),I j,.undef],[]⟩) ?_ (xs.length) _ ⟨0,by simp,by simp⟩
 intro k s ⟨j,hj,hs⟩
 subst hs
 by_cases hjn:j<xs.length
 ·have hw:=Cv (j:=j) (by omega)
  have hst:=Akn (f:=OZ) (a:=(11:Int)) hjn
  have hb:=Ajv (xs.take j) (a:=11) (by omega) (by omega)
  generalize(xs.take j).foldl OZ 11=s at hst hb
  have hm:=Aet xs[j] (q:=2147483647) ⟨by omega,by omega⟩
  have w1:IntKind.i64.wrap (s*1000003)=s*1000003:=Ad (by omega) (by omega)
  have w2:IntKind.i64.wrap (s*1000003+Wh xs[j] 2147483647)=s*1000003+Wh xs[j] 2147483647:=Ad (by omega) (by omega)
  have w3:IntKind.i64.wrap (s*1000003+Wh xs[j] 2147483647+13)=s*1000003+Wh xs[j] 2147483647+13:=Ad (by omega) (by omega)
  simp -implicitDefEqProofs [hjn,w1]
  refine Aa (hM _ _) ?_
  simp -implicitDefEqProofs [w1,w2,w3]
  exact⟨k-1,by omega,j+1,by omega,by rw[hst];rfl,by simp[hw]⟩
 ·have e:xs.take j=xs:=List.take_of_length_le (by omega)
  simp -implicitDefEqProofs [hjn,e,hash]
def keyed (k:Int) (xs:List Int):Int:=hash (k::xs++ [k])
abbrev AeA:Prop:=∀(k:Int) (xs:List Int),xs.length<=4194304->R [I k,.sl 1 1 xs.length (ints xs)] [] (I (keyed k xs)) []
theorem Ot (a:Int) (xs:List Int):V.sc (.int .i64 a)::ints xs=ints (a::xs):=rfl
theorem AnE (hH:AdJ (D 338)):AeA (Body D KO):=by
 intro k xs hl
 have b1:(1+xs.length)*8<=1099511627776:=by omega
 have b2:(1+xs.length+1)*8<=1099511627776:=by omega
 have hlen:(k::xs++ [k]).length=1+xs.length+1:=by simp;omega
 simp -implicitDefEqProofs [b1,b2]
 have hh:=hH (k::xs++ [k]) (by unfold maxLen;omega)
 rw[hlen]at hh
 simp -implicitDefEqProofs [Ot]at hh
 simp -implicitDefEqProofs [Ot]
 refine Aa (hh) ?_
 simp -implicitDefEqProofs [keyed]
def pick (seed p n:Int):Int:=if n<1 then 0 else Wh (hash [seed,p]) n
abbrev Ahf:Prop:=∀seed p n:Int,R [I seed,I p,I n] [] (I (pick seed p n)) []
theorem AoV (hH:AdJ (D 338)) (hM:AnK (D 339)):Ahf (Body D O0):=by
 intro seed p n
 by_cases h:n<1
 ·simp -implicitDefEqProofs [h,pick]
 simp -implicitDefEqProofs [h]
 refine Aa (hH [seed,p] (by unfold maxLen;simp)) ?_
 simp -implicitDefEqProofs
 refine Aa (hM _ _) ?_
 simp -implicitDefEqProofs [pick,h]
theorem UK (seed p:Int) {n:Int} (h:NJ n 1 1000000000000):0<=pick seed p n/\pick seed p n<n:=by
 unfold pick
 rw[if_neg (by omega)]
 exact Aet _ h
def Oh (seed:Int):Int:=16*pick seed 0 16+10
abbrev O4:Prop:=∀seed:Int,R [I seed] [] (I (Oh seed)) []
theorem Aev (hP:Ahf (D 313)):O4 (Body D KA):=by
 intro seed
 simp -implicitDefEqProofs
 refine Aa (hP _ _ _) ?_
 have hb:=UK seed 0 (n:=16) ⟨by omega,by omega⟩
 have w1:IntKind.i64.wrap (16*pick seed 0 16)=16*pick seed 0 16:=Ad (by omega) (by omega)
 have w2:IntKind.i64.wrap (16*pick seed 0 16+10)=16*pick seed 0 16+10:=Ad (by omega) (by omega)
 simp -implicitDefEqProofs [w1,w2,Oh]
def Li (ls:List (List Int)):Bool:=decide (ls.length<=12)&&ls.all fun l=>allIn l 0 255
abbrev Qq:Prop:=∀ls:List (List Int),GR ls<=4194304->R [KZ ls] [] (B (Li ls)) []
theorem Aiq (hB:RN (D 217)):Qq (Body D H7):=by
 intro ls hl
 have hll:=Ms (xs:=ls)
 simp -implicitDefEqProofs
 refine Ag (fun k s=>∃j,j+k=ls.length/\(ls.take j).all (fun l=>allIn l 0 255)=true/\s=⟨[KZ ls,.undef,I j,.undef,.undef],[]⟩) ?_ (ls.length) _ ⟨0,by simp,by simp,by simp⟩
 intro k s ⟨j,hj,hp,hs⟩
 subst hs
 by_cases hjn:j<ls.length
 ·have hw:=Cv (j:=j) (by omega)
  have hst:=Qm (p:=fun l=>allIn l 0 255) hjn
  rw[hp,Bool.true_and]at hst
  have hra:=Uz hjn
  simp -implicitDefEqProofs [hjn]
  refine Aa (hB _ (by unfold maxLen;omega)) ?_
  by_cases h1:allIn ls[j] 0 255=true
  ·simp -implicitDefEqProofs [h1]
   exact⟨k-1,by omega,j+1,by omega,by simpa using hst.trans h1,by simp[hw]⟩
  ·have e:Li ls=false:=by unfold Li;rw[NP hjn (by simpa using h1)];simp
   simp -implicitDefEqProofs [h1,e]
 ·have e:Li ls=decide (ls.length<=12):=by unfold Li;rw[<-VW (j:=j) (by omega),hp];simp
  by_cases h5:ls.length<=12
  ·have h5':(ls.length:Int)<=12:=by omega
   simp -implicitDefEqProofs [hjn,e,h5,h5']
  ·have h5':¬(ls.length:Int)<=12:=by omega
   simp -implicitDefEqProofs [hjn,e,h5,h5']
def Vj (x:Int) (b:List Int):Int:=hash (x::(b.length:Int)::b)
def LH (ls:List (List Int)):Int:=if Li ls=true then ls.foldl Vj 1 else 0
abbrev OV:Prop:=∀ls:List (List Int),GR ls<=4194304->R [KZ ls] [] (I (LH ls)) []
theorem AiF {α β:Type} {f:α->β->α} {xs:List β} {j:Nat} {a:α} (h:j<xs.length):(xs.take (j+1)).foldl f a=f ((xs.take j).foldl f a) xs[j]:=by
 have e:xs.take (j+1)=xs.take j++ [xs[j]]:=by simp
 rw[e,List.foldl_append];rfl
theorem Ae2 (hT:Qq (D 334)) (hH:AdJ (D 338)):OV (Body D Gt):=by
 intro ls hl
 have hll:=Ms (xs:=ls)
 simp -implicitDefEqProofs
 refine Aa (hT ls hl) ?_
 by_cases h1:Li ls=true
 rotate_left
 ·simp -implicitDefEqProofs [h1,LH]
 simp -implicitDefEqProofs [h1]
 refine Ag (fun k s=>∃j o0 o1,j+k=ls.length/\s=⟨[KZ ls,.undef,I ((ls.take j).foldl Vj 1),I j,.undef,.undef],[o0,o1]⟩) ?_ (ls.length) _ ⟨0,.free,.free,by simp,by simp⟩
 intro k s ⟨j,o0,o1,hj,hs⟩
 subst hs
 by_cases hjn:j<ls.length
 ·have hw:=Cv (j:=j) (by omega)
  have hst:=AiF (f:=Vj) (a:=(1:Int)) hjn
  have hra:=Uz hjn
  have b1:(2+ls[j].length)*8<=1099511627776:=by omega
  generalize(ls.take j).foldl Vj 1=x at hst
  have hh:=hH (x::(ls[j].length:Int)::ls[j]) (by unfold maxLen;simp;omega)
  have hlen:(x::(ls[j].length:Int)::ls[j]).length=2+ls[j].length:=by simp;omega
  rw[hlen]at hh
  simp only[<-Ot]at hh
  simp -implicitDefEqProofs [hjn,b1]
  refine Aa (hh) ?_
  simp -implicitDefEqProofs
  exact⟨k-1,by omega,j+1,by omega,by rw[hst];rfl,by simp[hw]⟩
 ·have e:ls.take j=ls:=List.take_of_length_le (by omega)
  have e2:LH ls=ls.foldl Vj 1:=by unfold LH;rw[if_pos h1]
  simp -implicitDefEqProofs [hjn,e,e2]
def G6 (k:Int) (ls:List (List Int)) (side:Int):Int:=if Mj k&&(Li ls&&decide (NJ side 0 1))then keyed k [side,LH ls]else 0
abbrev ZE:Prop:=∀(k:Int) (ls:List (List Int)) (side:Int),GR ls<=4194304->R [I k,KZ ls,I side] [] (I (G6 k ls side)) []
theorem Ak1 (hV:Oe (D 210)) (hT:Qq (D 334)) (hI:Vf (D 71)) (hH:OV (D 335)) (hK:AeA (D 336)):ZE (Body D Mt):=by
 intro k ls side hl
 simp -implicitDefEqProofs
 refine Aa (hV k) ?_
 by_cases h1:Mj k=true
 rotate_left
 ·simp -implicitDefEqProofs [h1,G6]
 simp -implicitDefEqProofs [h1]
 refine Aa (hT ls hl) ?_
 by_cases h2:Li ls=true
 rotate_left
 ·simp -implicitDefEqProofs [h2,G6]
 simp -implicitDefEqProofs [h2]
 refine Aa (hI _ _ _) ?_
 by_cases h3:NJ side 0 1
 rotate_left
 ·simp -implicitDefEqProofs [h3,G6]
 simp -implicitDefEqProofs [h3]
 refine Aa (hH ls hl) ?_
 simp -implicitDefEqProofs
 refine Aa (hK k [side,LH ls] (by simp)) ?_
 simp -implicitDefEqProofs [G6,h1,h2,h3]
set_option maxHeartbeats 1000000
theorem Adr {l:List Ext} (h:Ej l=true):l.length<=6:=by
 unfold Ej at h
 simp only[Bool.and_eq_true,decide_eq_true_eq]at h
 exact h.2
theorem AnY {l:List Ext} (h:Ej l=true) {j:Nat} (hj:j<l.length):Qo l j=true:=by
 unfold Ej at h
 simp only[Bool.and_eq_true]at h
 exact V7.1 h.1 j hj
theorem Aaw {l:List Ext} (h:Ej l=true) {j:Nat} (hj:j<l.length):l[j].body.length<=4:=by
 have:=AnY h hj
 rw[Oo hj]at this
 unfold SY at this
 simp only[Bool.and_eq_true,decide_eq_true_eq]at this
 exact this.1.2.1
def ArU (x:Ext):List Int:=x.tag::(x.body.length:Int)::x.body
def Qa (l:List Ext) (j:Nat):List Int:=(l.length:Int)::(l.take j).flatMap ArU
theorem Aa8 {l:List Ext} {j:Nat} (h:j<l.length):Qa l (j+1)=Qa l j++([l[j].tag,(l[j].body.length:Int)]++l[j].body):=by
 have e:l.take (j+1)=l.take j++ [l[j]]:=by simp
 unfold Qa
 rw[e,List.flatMap_append]
 simp[ArU]
theorem Xw {l:List Ext} (h:Ej l=true):∀j,j<=l.length->(Qa l j).length<=1+6*j
 | 0,_=>by simp[Qa]
 | j+1,hj=>by
  have ih:=Xw h j (by omega)
  have hb:=Aaw h (j:=j) (by omega)
  rw[Aa8 (by omega)]
  simp only[List.length_append,List.length_cons,List.length_nil]
  omega
def FV (l:List Ext):List Int×Bool:=if Ej l=true then(Qa l l.length,true)else([],false)
abbrev Kg:Prop:=∀l:List Ext,OD l->R [.sl 1 2 l.length (l.flatMap Cc)] [] (.tup [.sl 0 1 (FV l).1.length (ints (FV l).1),B (FV l).2]) []
theorem AcG (hA:JX (D 312)):Kg (Body D Jr):=by
 intro l hl
 have hll:=hl.1
 simp -implicitDefEqProofs
 refine Aa (hA l hl) ?_
 by_cases h1:Ej l=true
 rotate_left
 ·have e:FV l=([],false):=by unfold FV;rw[if_neg h1]
  simp -implicitDefEqProofs [h1,e]
 simp -implicitDefEqProofs [h1]
 refine Ag (fun k s=>∃j o2 o3 o4,j+k=l.length/\s=⟨[.sl 1 2 l.length (l.flatMap Cc),.undef,.undef,.arr 5,I j,.undef,.undef],[.free,.free,o2,o3,o4,.arr 1 0 (Qa l j).length (ints (Qa l j))]⟩) ?_ (l.length) _ ⟨0,.free,.free,.free,by simp,by simp[Qa,ints]⟩
 intro k s ⟨j,o2,o3,o4,hj,hs⟩
 subst hs
 by_cases hjn:j<l.length
 ·have hw:=Cv (j:=j) (by omega)
  have hst:=Aa8 hjn
  have hle:=Xw h1 j (by omega)
  have h6:=Adr h1
  have hb4:=Aaw h1 hjn
  have b1:((Qa l j).length+2)*8<=1099511627776:=by omega
  have b2:((Qa l j).length+2+l[j].body.length)*8<=1099511627776:=by omega
  simp -implicitDefEqProofs [hjn,b1,b2]
  exact⟨k-1,by omega,j+1,by omega,by simp[hw],by rw[hst];simp;omega,by rw[hst];simp[ints]⟩
 ·obtain rfl:j=l.length:=by omega
  have e:FV l=(Qa l l.length,true):=by unfold FV;rw[if_pos h1]
  simp -implicitDefEqProofs [e]
theorem MW (l:List Ext):(FV l).1.length<=37:=by
 unfold FV
 split
 ·rename_i h
  have:=Xw h l.length (Nat.le_refl _)
  have:=Adr h
  dsimp only;omega
 ·simp
def Du (h:Hello):List Int:=if Dt h=true then((h.versions.length:Int)::h.versions)++(FV h.exts).1 else []
abbrev MV:Prop:=∀h:Hello,hB h->R [arg (Ck h)] [] (.sl 0 1 (Du h).length (ints (Du h))) []
theorem Adj {h:Hello} (hh:Dt h=true):AQ h.versions=true:=by unfold Dt at hh;simp only[Bool.and_eq_true]at hh;exact hh.1
theorem Acl (hI:Gr (D 285)) (hE:Kg (D 337)):MV (Body D Jk):=by
 intro h hh
 have hv:=hh.1
 simp -implicitDefEqProofs
 refine Aa (hI h hh) ?_
 by_cases h1:Dt h=true
 rotate_left
 ·simp -implicitDefEqProofs [h1,Du]
 have hl:=MW h.exts
 have e:Du h=((h.versions.length:Int)::h.versions)++(FV h.exts).1:=by unfold Du;rw[if_pos h1]
 rw[e]
 simp -implicitDefEqProofs [h1]
 refine Aa (hE h.exts hh.2) ?_
 generalize(FV h.exts).1=r at hl
 have b1:(1+h.versions.length)*8<=1099511627776:=by omega
 have b2:(1+h.versions.length+r.length)*8<=1099511627776:=by omega
 have el:h.versions.length+r.length+1=1+h.versions.length+r.length:=by omega
 simp -implicitDefEqProofs [b1,b2,Ot,Ab4,el]
def Kr (a:Nw):Bool:=decide (InV a.version 1 9)&&Ej a.exts
def Ci (a:Nw):List Int:=if Kr a=true then a.version::(FV a.exts).1 else []
abbrev NR:Prop:=∀a:Nw,OD a.exts->R [arg (RB a)] [] (B (Kr a)) []
theorem AfA (hI:Vf (D 71)) (hE:JX (D 312)):NR (Body D LK):=by
 intro a ha
 simp -implicitDefEqProofs
 refine Aa (hI _ _ _) ?_
 by_cases h1:InV a.version 1 9
 rotate_left
 ·simp -implicitDefEqProofs [h1,Kr]
 simp -implicitDefEqProofs [h1]
 refine Aa (hE _ ha) ?_
 simp -implicitDefEqProofs [Kr,h1]
abbrev Lb:Prop:=∀a:Nw,OD a.exts->R [arg (RB a)] [] (.sl 0 1 (Ci a).length (ints (Ci a))) []
theorem YK (a:Nw):(Ci a).length<=38:=by
 unfold Ci
 have:=MW a.exts
 split
 ·simp only[List.length_cons];omega
 ·simp
theorem Ab1 (hI:NR (D 333)) (hE:Kg (D 337)):Lb (Body D IY):=by
 intro a ha
 simp -implicitDefEqProofs
 refine Aa (hI a ha) ?_
 by_cases h1:Kr a=true
 rotate_left
 ·have e:Ci a=[]:=by unfold Ci;rw[if_neg h1]
  simp -implicitDefEqProofs [h1,e]
 have hl:=MW a.exts
 have e:Ci a=a.version::(FV a.exts).1:=by unfold Ci;rw[if_pos h1]
 rw[e]
 simp -implicitDefEqProofs [h1]
 refine Aa (hE a.exts ha) ?_
 generalize(FV a.exts).1=r at hl
 have b2:(1+r.length)*8<=1099511627776:=by omega
 have el:r.length+1=1+r.length:=by omega
 simp -implicitDefEqProofs [b2,Ot,el]
def AfK (h:Hello) (x:Ext):Bool:=decide (x.tag∈Ba h.exts)&& !BH x.tag
def Fu (h:Hello) (a:Nw):Bool:=Dt h&&(Kr a&&(decide (a.version∈h.versions)&&a.exts.all (AfK h)))
abbrev PY:Prop:=∀(h:Hello) (a:Nw),hB h->OD a.exts->R [arg (Ck h),arg (RB a)] [] (B (Fu h a)) []
theorem AmN {α:Type} {p:α->Bool} {xs:List α} {i:Int} (h:0<=i):(Rc p xs i<0)=¬(xs.any p=true):=by
 have:=AjA (p:=p) (xs:=xs) h
 rw[<-this]
 exact propext ⟨fun h=>by omega,fun h=>by omega⟩
theorem Aox (l:List Ext) (t:Int):l.any (Gq t)=decide (t∈Ba l):=by
 rw[Bool.eq_iff_iff]
 simp only[List.any_eq_true,decide_eq_true_eq,Ba,List.mem_map,Gq]
theorem LA (l:List Ext) (t:Int):(K7 l t<0)=¬(t∈Ba l):=by
 unfold K7
 rw[AmN (by omega),Aox]
 simp
theorem Ae5 (hX:Rj (D 309)) (hR:Ib (D 250)) (hI:Gr (D 285)) (hA:NR (D 333)) (hH:UQ (D 166)):PY (Body D KU):=by
 intro h a hh ha
 have hal:=ha.1
 have hxl:=hh.2.1
 have hvl:=hh.1
 simp -implicitDefEqProofs
 refine Ag (fun k s=>∃j,j+k=a.exts.length/\(a.exts.take j).all (AfK h)=true/\s=⟨[.undef,.undef,.ptr 0 0,.ptr 1 0,.undef,I j,.undef,.undef],[.var ((Ck h).map (AO 1)),.var ((RB a).map (AO 1))]⟩) ?_ (a.exts.length) _ ⟨0,by simp,by simp,by simp⟩
 intro k s ⟨j,hj,hp,hs⟩
 subst hs
 by_cases hjn:j<a.exts.length
 ·have hw:=Cv (j:=j) (by omega)
  have hst:=Qm (p:=AfK h) hjn
  rw[hp,Bool.true_and]at hst
  simp -implicitDefEqProofs [hjn]
  refine Aa (hX h.exts _ (by unfold maxLen;omega)) ?_
  by_cases h1:a.exts[j].tag∈Ba h.exts
  rotate_left
  ·have e:Fu h a=false:=by unfold Fu;rw[NP hjn (by simp[AfK,h1])];simp
   have h1':K7 h.exts a.exts[j].tag<0:=by rw[LA];exact h1
   simp -implicitDefEqProofs [h1',e]
  have h1':¬K7 h.exts a.exts[j].tag<0:=by rw[LA];simpa using h1
  simp -implicitDefEqProofs [h1',hjn]
  refine Aa (hR _) ?_
  by_cases h2:BH a.exts[j].tag=true
  ·have e:Fu h a=false:=by unfold Fu;rw[NP hjn (by simp[AfK,h2])];simp
   simp -implicitDefEqProofs [h2,e]
  ·simp -implicitDefEqProofs [h2]
   exact⟨k-1,by omega,j+1,by omega,by simpa using hst.trans (show AfK h a.exts[j]=true by simp[AfK,h1,h2]),by simp[hw]⟩
 ·have e:a.exts.all (AfK h)=true:=by rw[<-VW (j:=j) (by omega),hp]
  simp -implicitDefEqProofs [hjn]
  refine Aa (hI h hh) ?_
  by_cases g1:Dt h=true
  rotate_left
  ·simp -implicitDefEqProofs [g1,Fu]
  simp -implicitDefEqProofs [g1]
  refine Aa (hA a ha) ?_
  by_cases g2:Kr a=true
  rotate_left
  ·simp -implicitDefEqProofs [g2,Fu]
  simp -implicitDefEqProofs [g2]
  refine Aa (hH _ _ (by unfold maxLen;omega)) ?_
  have e2:Fu h a=decide (a.version∈h.versions):=by unfold Fu;rw[e,g1,g2];simp
  simp -implicitDefEqProofs [e2]
def Bb (vs tags:List Int) (h:Hello):Nw×Bool:=if Dt h&& !decide (AJ vs h.versions=0)then(⟨AJ vs h.versions,Xy (JP h.exts tags)⟩,true)else(⟨0,[]⟩,false)
abbrev Zx:Prop:=∀(vs tags:List Int) (h:Hello),vs.length<=4194304->tags.length<=4194304->hB h->R [.sl 1 1 vs.length (ints vs),.sl 1 1 tags.length (ints tags),arg (Ck h)] [] (.tup [.agg (RB (Bb vs tags h).1),B (Bb vs tags h).2]) []
theorem AkQ (hB':FQ (D 168)) (hI:Gr (D 285)) (hK:QD (D 331)) (hS:Lv (D 332)):Zx (Body D H6):=by
 intro vs tags h hv ht hh
 simp -implicitDefEqProofs
 refine Aa (hB' vs h.versions hv hh.1) ?_
 simp -implicitDefEqProofs
 refine Aa (hI h hh) ?_
 by_cases h1:Dt h=true
 rotate_left
 ·simp -implicitDefEqProofs [h1,Bb]
 by_cases h2:AJ vs h.versions=0
 ·simp -implicitDefEqProofs [h1,h2,Bb]
 have e:Bb vs tags h=(⟨AJ vs h.versions,Xy (JP h.exts tags)⟩,true):=by unfold Bb;rw[if_pos (by simp[h1,h2])]
 simp -implicitDefEqProofs [h1,h2]
 refine Aa (hK h.exts tags hh.2 (by unfold maxLen;omega)) ?_
 simp -implicitDefEqProofs
 refine Aa (hS (JP h.exts tags) (QV hh.2 _)) ?_
 simp -implicitDefEqProofs [e]
end Go.Eng.T
namespace Go.Eng.T
open Go.Eng.X
def QG:Nat->Ce
 |0=>R 0 [m f] [] [1]
 |_=>R 1 [m s0,e l0,y .gtr l1 (i 1048576),m l2] [(1,3)] [0]
def WT:Cm:=⟨2,0,[0],0,false,[],U (QG 0) (ur (QG 1)),[.slot 1]⟩
def Ahw:List Tmp:=[0,2]
def CX:Nat->Ce
 |0=>R 0 [x 0 s0,a 1 zW] [(2,0),(3,1)] [0]
 |1=>Q 1 [P 15 s2,C 22 [r l0] [2,3,4,5,6,7],a 8 zW,W 15 l2 l1] [(4,2)] [2] [] [w 2 15,w 3 16,w 6 19,w 7 20,w 4 17,w 5 18]
 |2=>R 2 [m i0] [(5,0)] []
 |3=>R 3 [m s5,m s1,e l1,y .lss l0 l2] [(6,3)] []
 |4=>Y 5 [D (P 15 s4) [8] [],D (m s1) [] [],D (m s5) [] [],D (A 6 l1 l2) [] [],D (P 6 l3) [] [],D (C 27 [r l0,r l4] [9,10,11,12,13,14]) [9,10,11,12,13,14,15,16,17,18,19,20] [9,10,11,12,13,14],D (m l5) [] [],D (X l6 0) [] [],D (X l6 1) [] [],D (W 15 s4 l7) [8] [8]] [] [] [9,10,11,12,13,14] [w 9 15,w 10 16,w 13 19,w 14 20,w 11 17,w 12 18]
 |5=>R 4 [m s5,y .add l0 i1,m l1] [(5,2)] []
 |_=>R 6 [P 15 s4,W 15 s3 l0] [] [1,4,5]
def KN:Cm:=⟨7,21,[0,1],0,false,[],U (CX 0) (U (CX 1) (j (U (CX 2) (.block 0 (.loop (j (U (CX 3) (h 6 sk (.exit 0))) (j (.block 1 (d (CX 4))) (d (CX 5))))))) (ur (CX 6)))),[.cell 3 (some 15)]⟩
def Um:List Tmp:=[0,1,2,4,5,6,12]
attribute [simp] QG WT CX KN
end Go.Eng.T
