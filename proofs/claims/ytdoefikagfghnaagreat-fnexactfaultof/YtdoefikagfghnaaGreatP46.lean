/- Own work: part 46 of the proof of FnExactFaultOf. -/
import Derived.Test.YtdoefikagfghnaaGreatP45
import Derived.Lib.SlicesCompact
set_option linter.unusedSimpArgs false
set_option linter.unusedVariables false
namespace Go.Eng.T
set_option maxRecDepth 20000
def hB (h:Hello):Prop:=h.versions.length≤4194304∧Ub h.exts
def CP (h:Hello):Bool:=A9 h.versions&&EC h.exts
abbrev Eb (R:Rel):Prop:=∀h:Hello,hB h→R [arg (CU h)] [] (B (CP h)) []
theorem AuM (D:Dn) (hA:BK (D EJ)) (hE:FV (D KC)):Eb (Body D TY):=by
 intro h hh
 simp -implicitDefEqProofs
 refine Aa (hA _ (by have:=hh.1;unfold maxLen;omega)) ?_
 by_cases h1:A9 h.versions=true
 rotate_left
 ·simp -implicitDefEqProofs [h1,CP]
 simp -implicitDefEqProofs [h1]
 refine Aa (hE _ hh.2) ?_
 simp -implicitDefEqProofs [h1,CP]
theorem Avr (D:Dn) (hA:BK (D FM)) (hE:FV (D KR)):Eb (Body D Ui):=by
 intro h hh
 simp -implicitDefEqProofs
 refine Aa (hA _ (by have:=hh.1;unfold maxLen;omega)) ?_
 by_cases h1:A9 h.versions=true
 rotate_left
 ·simp -implicitDefEqProofs [h1,CP]
 simp -implicitDefEqProofs [h1]
 refine Aa (hE _ hh.2) ?_
 simp -implicitDefEqProofs [h1,CP]
abbrev KI (R:Rel):Prop:=∀h:Hello,hB h→R [arg (CU h)] [] (.agg (CU h)) []
theorem Arf (D:Dn) (hE:OG (D XK)):KI (Body D Qz):=by
 intro h hh
 have h1:h.versions.length*8≤1099511627776:=by have:=hh.1;omega
 simp -implicitDefEqProofs [h1]
 refine Aa (hE _ hh.2) ?_
 simp -implicitDefEqProofs
theorem Avt (D:Dn) (hE:OG (D ZQ)):KI (Body D Rh):=by
 intro h hh
 have h1:h.versions.length*8≤1099511627776:=by have:=hh.1;omega
 simp -implicitDefEqProofs [h1]
 refine Aa (hE _ hh.2) ?_
 simp -implicitDefEqProofs
def lossy (b:Gu) (x:Ext):Bool:=decide (x.tag∈b.drops)||(b.lists&&(!decide (x.tag∈b.strips)&& !decide (Q5 x.tag 1 3)))
def At2 (vs:List Int):Int:=vs.getLastD 0
def Ob (b:Gu) (h:Hello):Bool:=(decide (0<b.limit)&&decide (b.limit<At2 h.versions))||h.exts.any (lossy b)
def stays (b:Gu) (t:Int):Bool:= !decide (t∈b.strips)
def AQ:Hello:=⟨[],[]⟩
def BS (b:Gu) (h:Hello):Hello×Bool:=if Hz b&&(CP h&& !Ob b h)then(⟨h.versions,kept (stays b) h.exts⟩,true)else(AQ,false)
abbrev OZ (R:Rel):Prop:=∀(b:Gu) (h:Hello),Hw b→hB h→R [arg (CF b),arg (CU h)] [] (.tup [.agg (CU (BS b h).1),B (BS b h).2]) []
theorem XJ {xs:List Int} (h:A9 xs=true):0<xs.length:=by
 unfold A9 at h
 simp only[Bool.and_eq_true,decide_eq_true_eq]at h
 exact h.2
theorem ACW {xs:List Int} (h:xs.length-1<xs.length):At2 xs=xs[xs.length-1]:=by
 unfold At2
 rw[List.getLastD_eq_getLast?,List.getLast?_eq_getElem?,List.getElem?_eq_getElem h];rfl
theorem AuQ (D:Dn) (hX:RQ (D XP)) (hE:Eb (D Gi)) (hH:R6 (D Jl)) (hI:SG (D CB)):OZ (Body D Tt):=by
 intro b h hb hh
 obtain⟨hv,hx⟩:=hh
 have hll:=hx.1
 simp -implicitDefEqProofs
 refine Aa (hX b hb) ?_
 by_cases h1:Hz b=true
 rotate_left
 ·simp -implicitDefEqProofs [h1,BS,AQ]
 simp -implicitDefEqProofs [h1]
 refine Aa (hE h ⟨hv,hx⟩) ?_
 by_cases h2:CP h=true
 rotate_left
 ·simp -implicitDefEqProofs [h2,BS,AQ]
 have hpos:0<h.versions.length:=XJ (by unfold CP at h2;simp only[Bool.and_eq_true]at h2;exact h2.1)
 have hn1:h.versions.length-1<h.versions.length:=by omega
 have hw1:IntKind.i64.wrap ((h.versions.length:Int)-1)=((h.versions.length-1:Nat):Int):=by rw[Ad (by omega) (by omega)];omega
 have htop:=ACW hn1
 by_cases h3:0<b.limit
 ·by_cases h4:b.limit<h.versions[h.versions.length-1]
  ·have e:BS b h=(AQ,false):=by simp[BS,Ob,htop,h3,h4]
   simp -implicitDefEqProofs [h2,h3,hw1,hn1,hpos,h4,e,AQ]
  ·have h3':b.limit<At2 h.versions↔False:=by rw[htop];simpa using h4
   have b0:h.versions.length*8≤1099511627776:=by omega
   simp -implicitDefEqProofs [h2,h3,hw1,hn1,hpos,h4,b0]
   refine Ae (fun k s=>∃j v8 o6 o7 o8 o9,j+k=h.exts.length∧(h.exts.take j).any (lossy b)=false∧s=⟨[.undef,.undef,.ptr 0 0,.ptr 1 0,.ptr 2 0,.undef,.ptr 5 0,I j,v8,.undef,.undef,.undef,.undef,.undef],[.var ((CF b).map (AZ 1)),.var ((CU h).map (AZ 1)),.var [.nil 1,.nil 2],.dead,.arr 1 0 h.versions.length (ints h.versions),.var [.arr 4,.arr 10],o6,o7,o8,o9,.arr 2 0 (kept (stays b) (h.exts.take j)).length ((kept (stays b) (h.exts.take j)).flatMap Br)]⟩) ?_ (h.exts.length) _ ⟨0,.undef,.free,.free,.free,.free,by simp,by simp,by simp[kept]⟩
   intro k s ⟨j,v8,o6,o7,o8,o9,hj,hp,hs⟩
   subst hs
   by_cases hjn:j<h.exts.length
   ·have hw:IntKind.i64.wrap ((j:Int)+1)=(j+1:Nat):=by rw[Ad (by omega) (by omega)];simp
    have hbd:=Mr hx hjn
    have b1:h.exts[j].body.length*8≤1099511627776:=by omega
    have hkl:=Vb (p:=stays b) (l:=h.exts) (j:=j)
    have b2:((kept (stays b) (h.exts.take j)).length+1)*32≤1099511627776:=by omega
    have hst:=X5 (p:=lossy b) hjn
    rw[hp,Bool.false_or]at hst
    simp -implicitDefEqProofs [hjn]
    refine Aa (hH _ _ hb.2) ?_
    simp -implicitDefEqProofs
    refine Aa (hH _ _ hb.1) ?_
    by_cases g1:h.exts[j].tag∈b.drops
    ·have e:BS b h=(AQ,false):=by
      have:=Ph (p:=lossy b) hjn (by simp[lossy,g1])
      simp[BS,Ob,this]
     simp -implicitDefEqProofs [g1,e,AQ]
    by_cases g2:h.exts[j].tag∈b.strips
    ·have hl:lossy b h.exts[j]=false:=by simp[lossy,g1,g2]
     have hk:=UU (p:=stays b) hjn (by simp[stays,g2])
     by_cases g3:b.lists=true
     ·simp -implicitDefEqProofs [g1,g2,g3]
      exact⟨k-1,by omega,j+1,by omega,by simpa using hst.trans hl,by simp[hw],by rw[hk],by rw[hk]⟩
     ·simp -implicitDefEqProofs [g1,g2,g3]
      exact⟨k-1,by omega,j+1,by omega,by simpa using hst.trans hl,by simp[hw],by rw[hk],by rw[hk]⟩
    have hk:=Q7 (p:=stays b) hjn (by simp[stays,g2])
    have hkl:=I8 (p:=stays b) hjn (by simp[stays,g2])
    by_cases g3:b.lists=true
    rotate_left
    ·have hl:lossy b h.exts[j]=false:=by simp[lossy,g1,g2,g3]
     simp -implicitDefEqProofs [g1,g2,g3,hjn,b1,b2]
     exact⟨k-1,by omega,j+1,by omega,by simpa using hst.trans hl,by simp[hw],by rw[hkl],by rw[←hk]⟩
    simp -implicitDefEqProofs [g1,g2,g3]
    refine Aa (hI _ _ _) ?_
    by_cases g4:Q5 h.exts[j].tag 1 3
    ·have hl:lossy b h.exts[j]=false:=by simp[lossy,g1,g2,g3,g4]
     simp -implicitDefEqProofs [g4,hjn,b1,b2]
     exact⟨k-1,by omega,j+1,by omega,by simpa using hst.trans hl,by simp[hw],by rw[hkl],by rw[←hk]⟩
    ·have e:BS b h=(AQ,false):=by
      have:=Ph (p:=lossy b) hjn (by simp[lossy,g1,g2,g3,g4])
      simp[BS,Ob,this]
     simp -implicitDefEqProofs [g4,e,AQ]
   ·have hje:j=h.exts.length:=by omega
    have ea:h.exts.any (lossy b)=false:=any_none (by omega) hp
    have ek:=UL (p:=stays b) (l:=h.exts) (j:=j) (by omega)
    have e:BS b h=(⟨h.versions,kept (stays b) h.exts⟩,true):=by simp only[BS,h1,h2,Ob,ea,h3'];simp
    simp -implicitDefEqProofs [hjn,e,ek]
 ·have b0:h.versions.length*8≤1099511627776:=by omega
  simp -implicitDefEqProofs [h2,h3,b0]
  refine Ae (fun k s=>∃j v8 o6 o7 o8 o9,j+k=h.exts.length∧(h.exts.take j).any (lossy b)=false∧s=⟨[.undef,.undef,.ptr 0 0,.ptr 1 0,.ptr 2 0,.undef,.ptr 5 0,I j,v8,.undef,.undef,.undef,.undef,.undef],[.var ((CF b).map (AZ 1)),.var ((CU h).map (AZ 1)),.var [.nil 1,.nil 2],.dead,.arr 1 0 h.versions.length (ints h.versions),.var [.arr 4,.arr 10],o6,o7,o8,o9,.arr 2 0 (kept (stays b) (h.exts.take j)).length ((kept (stays b) (h.exts.take j)).flatMap Br)]⟩) ?_ (h.exts.length) _ ⟨0,.undef,.free,.free,.free,.free,by simp,by simp,by simp[kept]⟩
  intro k s ⟨j,v8,o6,o7,o8,o9,hj,hp,hs⟩
  subst hs
  by_cases hjn:j<h.exts.length
  ·have hw:IntKind.i64.wrap ((j:Int)+1)=(j+1:Nat):=by rw[Ad (by omega) (by omega)];simp
   have hbd:=Mr hx hjn
   have b1:h.exts[j].body.length*8≤1099511627776:=by omega
   have hkl:=Vb (p:=stays b) (l:=h.exts) (j:=j)
   have b2:((kept (stays b) (h.exts.take j)).length+1)*32≤1099511627776:=by omega
   have hst:=X5 (p:=lossy b) hjn
   rw[hp,Bool.false_or]at hst
   simp -implicitDefEqProofs [hjn]
   refine Aa (hH _ _ hb.2) ?_
   simp -implicitDefEqProofs
   refine Aa (hH _ _ hb.1) ?_
   by_cases g1:h.exts[j].tag∈b.drops
   ·have e:BS b h=(AQ,false):=by
     have:=Ph (p:=lossy b) hjn (by simp[lossy,g1])
     simp[BS,Ob,this]
    simp -implicitDefEqProofs [g1,e,AQ]
   by_cases g2:h.exts[j].tag∈b.strips
   ·have hl:lossy b h.exts[j]=false:=by simp[lossy,g1,g2]
    have hk:=UU (p:=stays b) hjn (by simp[stays,g2])
    by_cases g3:b.lists=true
    ·simp -implicitDefEqProofs [g1,g2,g3]
     exact⟨k-1,by omega,j+1,by omega,by simpa using hst.trans hl,by simp[hw],by rw[hk],by rw[hk]⟩
    ·simp -implicitDefEqProofs [g1,g2,g3]
     exact⟨k-1,by omega,j+1,by omega,by simpa using hst.trans hl,by simp[hw],by rw[hk],by rw[hk]⟩
   have hk:=Q7 (p:=stays b) hjn (by simp[stays,g2])
   have hkl:=I8 (p:=stays b) hjn (by simp[stays,g2])
   by_cases g3:b.lists=true
   rotate_left
   ·have hl:lossy b h.exts[j]=false:=by simp[lossy,g1,g2,g3]
    simp -implicitDefEqProofs [g1,g2,g3,hjn,b1,b2]
    exact⟨k-1,by omega,j+1,by omega,by simpa using hst.trans hl,by simp[hw],by rw[hkl],by rw[←hk]⟩
   simp -implicitDefEqProofs [g1,g2,g3]
   refine Aa (hI _ _ _) ?_
   by_cases g4:Q5 h.exts[j].tag 1 3
   ·have hl:lossy b h.exts[j]=false:=by simp[lossy,g1,g2,g3,g4]
    simp -implicitDefEqProofs [g4,hjn,b1,b2]
    exact⟨k-1,by omega,j+1,by omega,by simpa using hst.trans hl,by simp[hw],by rw[hkl],by rw[←hk]⟩
   ·have e:BS b h=(AQ,false):=by
     have:=Ph (p:=lossy b) hjn (by simp[lossy,g1,g2,g3,g4])
     simp[BS,Ob,this]
    simp -implicitDefEqProofs [g4,e,AQ]
  ·have hje:j=h.exts.length:=by omega
   have ea:h.exts.any (lossy b)=false:=any_none (by omega) hp
   have ek:=UL (p:=stays b) (l:=h.exts) (j:=j) (by omega)
   have e:BS b h=(⟨h.versions,kept (stays b) h.exts⟩,true):=by simp only[BS,h1,h2,Ob,ea,h3];simp
   simp -implicitDefEqProofs [hjn,e,ek]
abbrev Yt (R:Rel):Prop:=∀(t:Int) (b:Gu),Hw b→R [I t,.rptr 1 (CF b) 0] [] (B (stays b t)) []
theorem AvM (D:Dn) (hH:R6 (D Bn)):Yt (Body D Qf):=by
 intro t b hb
 simp -implicitDefEqProofs
 refine Aa (hH b.strips t hb.2) ?_
 simp -implicitDefEqProofs [stays]
abbrev Aif (R:Rel):Prop:=∀(x:Ext) (b:Gu),Hw b→R [arg (Br x),.rptr 1 (CF b) 0] [] (B (lossy b x)) []
theorem ABE (D:Dn) (hH:R6 (D Bn)) (hI:SG (D Bz)):Aif (Body D Us):=by
 intro x b hb
 simp -implicitDefEqProofs
 refine Aa (hH b.drops x.tag hb.1) ?_
 by_cases g1:x.tag∈b.drops
 ·simp -implicitDefEqProofs [g1,lossy]
 by_cases g3:b.lists=true
 rotate_left
 ·simp -implicitDefEqProofs [g1,g3,lossy]
 simp -implicitDefEqProofs [g1,g3]
 refine Aa (hH b.strips x.tag hb.2) ?_
 by_cases g2:x.tag∈b.strips
 ·simp -implicitDefEqProofs [g1,g2,g3,lossy]
 simp -implicitDefEqProofs [g2]
 refine Aa (hI _ _ _) ?_
 simp -implicitDefEqProofs [g1,g2,g3,lossy]
def ADR (xs:List Int):Int:=xs.foldl max (xs.headD 0)
abbrev AFq (R:Rel):Prop:=∀xs:List Int,0<xs.length→xs.length≤4194304→R [.sl 1 1 xs.length (ints xs)] [] (I (ADR xs)) []
abbrev At5 (R:Rel):Prop:=∀xs:List Int,xs.length≤4194304→R [.sl 1 1 xs.length (ints xs)] [] (.sl 0 1 xs.length (ints xs)) []
abbrev Apc (R:Rel):Prop:=∀(b:Gu) (h:Hello),Hw b→hB h→Hz b=true→A9 h.versions=true→R [arg (CF b),arg (CU h)] [] (B (Ob b h)) []
theorem AbO:∀(xs:List Int) (a:Int),(∀x,x∈xs→a≤x)→(∀i,(h:i+1<xs.length)→xs[i]≤xs[i+1])→xs.foldl max a=(xs.getLast?.getD a)
 | [],a,_,_=>rfl
 | x::r,a,h1,h2=>by
  have hx:=h1 x (by simp)
  have hr:∀y,y∈r→x≤y:=by
   intro y hy
   obtain⟨n,hn,rfl⟩:=List.getElem_of_mem hy
   have key:∀m,(hm:m<r.length)→x≤r[m]:=by
    intro m
    induction m with
    | zero=>intro hm;have:=h2 0 (by simp;omega);simpa using this
    | succ m ih=>
     intro hm
     have h3:=ih (by omega)
     have:=h2 (m+1) (by simp;omega)
     simp only[List.getElem_cons_succ]at this
     omega
   exact key n hn
  have ih:=AbO r x hr (fun i h=>by have:=h2 (i+1) (by simp;omega);simpa using this)
  simp only[List.foldl_cons]
  rw[show max a x=x by omega,ih]
  cases r with
  | nil=>rfl
  | cons y s=>simp[List.getLast?_cons_cons,List.getLast?_cons]
theorem AoP {xs:List Int} (h:A9 xs=true) {i:Nat} (hi:i+1<xs.length):xs[i]<xs[i+1]:=by
 unfold A9 K9 at h
 simp only[Bool.and_eq_true,List.all_eq_true,List.mem_range]at h
 have:=(h.1 (i+1) hi).2
 rw[Xm hi,show i+1-1=i by omega,Xm (by omega)]at this
 simpa using this
theorem Axi {xs:List Int} (h:A9 xs=true):ADR xs=At2 xs:=by
 cases xs with
 | nil=>rfl
 | cons x r=>
  unfold ADR At2
  simp only[List.headD_cons,List.foldl_cons]
  rw[show max x x=x by omega,AbO r x ?_ ?_]
  ·cases r with
   | nil=>rfl
   | cons y s=>simp[List.getLastD_eq_getLast?,List.getLast?_cons_cons,List.getLast?_cons]
  ·intro y hy
   obtain⟨n,hn,rfl⟩:=List.getElem_of_mem hy
   induction n with
   | zero=>have:=AoP h (i:=0) (by simp;omega);simp at this;omega
   | succ m ih=>
    have h3:=ih (by omega) (List.getElem_mem _)
    have:=AoP h (i:=m+1) (by simp;omega)
    simp only[List.getElem_cons_succ]at this
    omega
  ·intro i hi
   have:=AoP h (i:=i+1) (by simp;omega)
   simp only[List.getElem_cons_succ]at this
   omega
theorem Aer {b:Gu} {r:List V} (h:Ke r):Ke (.rptr 1 (CF b) 0::r):=Aas (fun H=>by simp) (fun H=>by simp) h
theorem ADF (D:Dn) (hM:AFq (D VZ)) (h1:Aif (D Ur)) (hC:J6 D (D IX)):Apc (Body D XE):=by
 intro b h hb hh hbox hver
 obtain⟨hv,hx⟩:=hh
 have hll:=hx.1
 have hpos:=XJ hver
 have hlim:0≤b.limit:=by unfold Hz at hbox;simp only[Bool.and_eq_true,decide_eq_true_eq]at hbox;exact hbox.1.1.1.1.1
 by_cases h0:b.limit=0
 ·obtain⟨lim,dr,st,li⟩:=b
  dsimp only at h0
  subst h0
  simp -implicitDefEqProofs
  refine Aa (hC h.exts Ur _ (lossy ⟨0,dr,st,li⟩) (by unfold maxLen;omega) (Aer (b:=⟨0,dr,st,li⟩) ER) (fun j hj=>h1 h.exts[j] ⟨0,dr,st,li⟩ hb)) ?_
  simp -implicitDefEqProofs [Ob]
 ·have hn:0<b.limit:=by omega
  simp -implicitDefEqProofs [h0]
  refine Aa (hM h.versions hpos hv) ?_
  rw[Axi hver]
  by_cases h4:b.limit<At2 h.versions
  ·simp -implicitDefEqProofs [h0,h4,Ob,hn]
  ·simp -implicitDefEqProofs [h0,h4]
   refine Aa (hC h.exts Ur _ (lossy b) (by unfold maxLen;omega) (Aer ER) (fun j hj=>h1 h.exts[j] b hb)) ?_
   simp -implicitDefEqProofs [Ob,hn,h4]
theorem AvO (D:Dn) (hX:RQ (D AfA)) (hE:Eb (D Hl)) (hL:Apc (D Asj)) (hC:At5 (D Ug)) (h1':Yt (D WJ)) (hK:LP D (D JF)):OZ (Body D Ul):=by
 intro b h hb hh
 simp -implicitDefEqProofs
 refine Aa (hX b hb) ?_
 by_cases h1:Hz b=true
 rotate_left
 ·simp -implicitDefEqProofs [h1,BS,AQ]
 simp -implicitDefEqProofs [h1]
 refine Aa (hE h hh) ?_
 by_cases h2:CP h=true
 rotate_left
 ·simp -implicitDefEqProofs [h2,BS,AQ]
 have hver:A9 h.versions=true:=by unfold CP at h2;simp only[Bool.and_eq_true]at h2;exact h2.1
 simp -implicitDefEqProofs [h2]
 refine Aa (hL b h hb hh h1 hver) ?_
 by_cases h3:Ob b h=true
 ·simp -implicitDefEqProofs [h3,BS,AQ]
 have e:BS b h=(⟨h.versions,kept (stays b) h.exts⟩,true):=by simp[BS,h1,h2,h3]
 simp -implicitDefEqProofs [h3]
 refine Aa (hC h.versions hh.1) ?_
 simp -implicitDefEqProofs
 refine Aa (hK h.exts WJ _ (stays b) hh.2 (Aer ER) (Abf Q0) (fun t=>h1' t b hb)) ?_
 simp -implicitDefEqProofs [e]
end Go.Eng.T
namespace Go.Eng.T
set_option maxRecDepth 20000
def Iu:List Gu→Hello→Hello×Bool
 | [],h=>(h,true)
 | b::r,h=>if(BS b h).2=true then Iu r (BS b h).1 else(AQ,false)
theorem AfM {path:List Gu} {j:Nat} {x:Hello} (h:j<path.length):Iu (path.drop j) x=if(BS path[j] x).2=true then Iu (path.drop (j+1)) (BS path[j] x).1 else(AQ,false):=by
 rw[List.drop_eq_getElem_cons h];rfl
theorem Ak3 {path:List Gu} {j:Nat} {x:Hello} (h:path.length≤j):Iu (path.drop j) x=(x,true):=by rw[List.drop_eq_nil_of_le h];rfl
def A7 (path:List Gu) (h:Hello):Hello×Bool:=if decide (path.length≤4)&&CP h then Iu path h else(AQ,false)
theorem AiP:hB AQ:=⟨by simp[AQ],Adb⟩
theorem Apm {b:Gu} {h:Hello} (hh:hB h):hB (BS b h).1:=by
 unfold BS
 split
 ·exact⟨hh.1,UN hh.2 _⟩
 ·exact AiP
theorem AvD {b:Gu} {h:Hello} (hk:(BS b h).2=false):(BS b h).1=AQ:=by
 unfold BS at *
 split at hk
 ·cases hk
 ·rename_i hc;rw[if_neg hc]
abbrev FN (R:Rel):Prop:=∀(path:List Gu) (h:Hello),lnS Hw path→hB h→R [.sl 1 4 path.length (path.flatMap CF),arg (CU h)] [] (.tup [.agg (CU (A7 path h).1),B (A7 path h).2]) []
theorem AsW (D:Dn) (hE:Eb (D Gi)) (hC:KI (D X6)) (hP:OZ (D AmW)):FN (Body D Sr):=by
 intro path h hb hh
 have hl:=hb.1
 unfold maxLen at hl
 by_cases h1:path.length≤4
 rotate_left
 ·have h1':(4:Int)<path.length:=by omega
  simp -implicitDefEqProofs [h1',h1,A7,AQ]
 have h1':¬(4:Int)<path.length:=by omega
 simp -implicitDefEqProofs [h1']
 refine Aa (hE h hh) ?_
 by_cases h2:CP h=true
 rotate_left
 ·simp -implicitDefEqProofs [h2,h1,A7,AQ]
 have e:A7 path h=Iu path h:=by simp[A7,h1,h2]
 rw[e]
 simp -implicitDefEqProofs [h2]
 refine Aa (hC h hh) ?_
 simp -implicitDefEqProofs
 refine Ae (fun k s=>∃j x o5 o6 o7,j+k=path.length∧hB x∧Iu path h=Iu (path.drop j) x∧s=⟨[.sl 1 4 path.length (path.flatMap CF),.undef,.undef,.ptr 1 0,.undef,.ptr 4 0,I j,.undef,.undef,.undef,.undef,.undef],[.var ((CU h).map (AZ 1)),.var [.nil 1,.nil 2],.free,.free,.var [.arr 8,.arr 9],o5,o6,o7,.arr 1 0 x.versions.length (ints x.versions),.arr 2 0 x.exts.length (x.exts.flatMap Br)]⟩) ?_ (path.length) _ ⟨0,h,.free,.free,.free,by simp,hh,by simp,by simp⟩
 intro k s ⟨j,x,o5,o6,o7,hj,hx,hg,hs⟩
 subst hs
 by_cases hjn:j<path.length
 ·have hw:IntKind.i64.wrap ((j:Int)+1)=(j+1:Nat):=by rw[Ad (by omega) (by omega)];simp
  rw[AfM hjn]at hg
  simp -implicitDefEqProofs [hjn]
  refine Aa (hP path[j] x (hb.2 j hjn) hx) ?_
  have hx':=Apm (b:=path[j]) hx
  generalize BS path[j] x=r at hg hx'
  by_cases hk:r.2=true
  ·rw[if_pos hk]at hg
   simp -implicitDefEqProofs [hk]
   refine⟨k-1,by omega,j+1,by omega,r.1,hx',?_⟩
   simp[hw,hg]
  ·rw[if_neg hk]at hg
   simp -implicitDefEqProofs [hk,hg,AQ]
 ·rw[Ak3 (by omega)]at hg
  simp -implicitDefEqProofs [hjn,hg]
theorem AsP (D:Dn) (hE:Eb (D Hl)) (hC:KI (D WK)) (hP:OZ (D AlJ)):FN (Body D RN):=by
 intro path h hb hh
 have hl:=hb.1
 unfold maxLen at hl
 simp -implicitDefEqProofs
 refine Aa (hE h hh) ?_
 by_cases h2:CP h=true
 rotate_left
 ·simp -implicitDefEqProofs [h2,A7,AQ]
 by_cases h1:path.length≤4
 rotate_left
 ·have h1':(4:Int)<path.length:=by omega
  simp -implicitDefEqProofs [h2,h1',h1,A7,AQ]
 have h1':¬(4:Int)<path.length:=by omega
 have e:A7 path h=Iu path h:=by simp[A7,h1,h2]
 rw[e]
 simp -implicitDefEqProofs [h2,h1']
 refine Aa (hC h hh) ?_
 simp -implicitDefEqProofs
 refine Ae (fun k s=>∃j x ok o5 o6,j+k=path.length∧hB x∧Iu path h=(if ok=true then Iu (path.drop j) x else(AQ,false))∧(ok=false→x=AQ)∧s=⟨[.sl 1 4 path.length (path.flatMap CF),.undef,.undef,.ptr 1 0,.undef,.ptr 4 0,B ok,I j,.undef,.undef],[.var ((CU h).map (AZ 1)),.var [.nil 1,.nil 2],.free,.free,.var [.arr 7,.arr 8],o5,o6,.arr 1 0 x.versions.length (ints x.versions),.arr 2 0 x.exts.length (x.exts.flatMap Br)]⟩) ?_ (path.length) _ ⟨0,h,true,.free,.free,by simp,hh,by simp,by simp,by simp⟩
 intro k s ⟨j,x,ok,o5,o6,hj,hx,hg,hno,hs⟩
 subst hs
 by_cases hok:ok=true
 rotate_left
 ·rw[if_neg hok]at hg
  have hok':ok=false:=by simpa using hok
  have hno':=hno hok'
  subst hok'
  subst hno'
  by_cases hjn:j<path.length
  ·simp -implicitDefEqProofs [hjn,hg,AQ]
  ·simp -implicitDefEqProofs [hjn,hg,AQ]
 rw[if_pos hok]at hg
 subst hok
 by_cases hjn:j<path.length
 ·have hw:IntKind.i64.wrap ((j:Int)+1)=(j+1:Nat):=by rw[Ad (by omega) (by omega)];simp
  rw[AfM hjn]at hg
  simp -implicitDefEqProofs [hjn]
  refine Aa (hP path[j] x (hb.2 j hjn) hx) ?_
  have hx':=Apm (b:=path[j]) hx
  have hno':=AvD (b:=path[j]) (h:=x)
  generalize BS path[j] x=r at hg hx' hno'
  simp -implicitDefEqProofs
  refine⟨k-1,by omega,j+1,by omega,r.1,hx',?_⟩
  simp[hw,hg,hno']
  by_cases hr:r.2=true
  ·right;exact⟨fun h=>by simp[hr]at h,hr⟩
  ·left;exact⟨fun h=>absurd h hr,hno' (by simpa using hr),by simpa using hr⟩
 ·rw[Ak3 (by omega)]at hg
  simp -implicitDefEqProofs [hjn,hg]
def Fe (b:Gu):Bool:=decide (b.limit=0)&&(decide (b.drops.length=0)&&(decide (b.strips.length=0)&& !b.lists))
abbrev O8 (R:Rel):Prop:=∀b:Gu,Hw b→R [arg (CF b)] [] (B (Fe b)) []
theorem AyD {b:Gu} (h:Fe b=true):Hz b=true:=by
 unfold Fe at h
 simp only[Bool.and_eq_true,decide_eq_true_eq]at h
 obtain⟨h1,h2,h3,_⟩:=h
 have h2':=List.eq_nil_of_length_eq_zero h2
 have h3':=List.eq_nil_of_length_eq_zero h3
 simp[Hz,h1,h2',h3',allIn]
theorem Ave (D:Dn):O8 (Body D TA):=by
 intro b hb
 by_cases g1:b.limit=0
 rotate_left
 ·simp -implicitDefEqProofs [g1,Fe,WT]
 by_cases g2:b.drops.length=0
 rotate_left
 ·have g2':¬(b.drops.length:Int)=0:=by omega
  simp -implicitDefEqProofs [g1,g2,g2',Fe,WT]
 have g2':(b.drops.length:Int)=0:=by omega
 by_cases g3:b.strips.length=0
 rotate_left
 ·have g3':¬(b.strips.length:Int)=0:=by omega
  simp -implicitDefEqProofs [g1,g2,g2',g3,g3',Fe,WT]
 have g3':(b.strips.length:Int)=0:=by omega
 simp -implicitDefEqProofs [g1,g2,g2',g3,g3',Fe,WT]
theorem AuH (D:Dn) (hX:RQ (D XP)):O8 (Body D Uk):=by
 intro b hb
 simp -implicitDefEqProofs
 refine Aa (hX b hb) ?_
 by_cases h1:Hz b=true
 rotate_left
 ·have e:Fe b=false:=by
   by_cases h:Fe b=true
   ·exact absurd (AyD h) h1
   ·simpa using h
  simp -implicitDefEqProofs [h1,e]
 by_cases g1:b.limit=0
 rotate_left
 ·simp -implicitDefEqProofs [g1,Fe,h1,WT]
 by_cases g2:b.drops.length=0
 rotate_left
 ·have g2':¬(b.drops.length:Int)=0:=by omega
  simp -implicitDefEqProofs [g1,g2,g2',Fe,h1,WT]
 have g2':(b.drops.length:Int)=0:=by omega
 by_cases g3:b.strips.length=0
 rotate_left
 ·have g3':¬(b.strips.length:Int)=0:=by omega
  simp -implicitDefEqProofs [g1,g2,g2',g3,g3',Fe,h1,WT]
 have g3':(b.strips.length:Int)=0:=by omega
 simp -implicitDefEqProofs [g1,g2,g2',g3,g3',Fe,h1,WT]
def ES (path:List Gu):Bool:=decide (path.length≤4)&&path.all Fe
abbrev Hg (R:Rel):Prop:=∀path:List Gu,lnS Hw path→R [.sl 1 4 path.length (path.flatMap CF)] [] (B (ES path)) []
theorem Sz {α:Type} {p:α→Bool} {xs:List α} {j:Nat} (h:j<xs.length) (hp:p xs[j]=false):xs.all p=false:=List.all_eq_false.2 ⟨_,List.getElem_mem h,by simp[hp]⟩
theorem UI {α:Type} {p:α→Bool} {xs:List α} {j:Nat} (h:j<xs.length):(xs.take (j+1)).all p=((xs.take j).all p&&p xs[j]):=by
 have e:xs.take (j+1)=xs.take j++ [xs[j]]:=by simp
 rw[e,List.all_append];simp
theorem Yz {α:Type} {p:α→Bool} {xs:List α} {j:Nat} (h:xs.length≤j):(xs.take j).all p=xs.all p:=by rw[List.take_of_length_le h]
theorem Ala (D:Dn) (hC:O8 (D AmM)):Hg (Body D Ni):=by
 intro path hb
 have hl:=hb.1
 unfold maxLen at hl
 simp -implicitDefEqProofs
 refine Ae (fun k s=>∃j,j+k=path.length∧(path.take j).all Fe=true∧s=⟨[.sl 1 4 path.length (path.flatMap CF),.undef,I j,.undef,.undef],[]⟩) ?_ (path.length) _ ⟨0,by simp,by simp,by simp⟩
 intro k s ⟨j,hj,hp,hs⟩
 subst hs
 by_cases hjn:j<path.length
 ·have hw:IntKind.i64.wrap ((j:Int)+1)=(j+1:Nat):=by rw[Ad (by omega) (by omega)];simp
  have hst:=UI (p:=Fe) hjn
  rw[hp,Bool.true_and]at hst
  simp -implicitDefEqProofs [hjn]
  refine Aa (hC path[j] (hb.2 j hjn)) ?_
  by_cases h1:Fe path[j]=true
  ·simp -implicitDefEqProofs [h1]
   exact⟨k-1,by omega,j+1,by omega,by simpa using hst.trans h1,by simp[hw]⟩
  ·have e:ES path=false:=by unfold ES;rw[Sz hjn (by simpa using h1)];simp
   simp -implicitDefEqProofs [h1,e]
 ·have e:ES path=decide (path.length≤4):=by unfold ES;rw[←Yz (j:=j) (by omega),hp];simp
  by_cases h1:path.length≤4
  ·have h1':(path.length:Int)≤4:=by omega
   simp -implicitDefEqProofs [hjn,e,h1,h1']
  ·have h1':¬(path.length:Int)≤4:=by omega
   simp -implicitDefEqProofs [hjn,e,h1,h1']
abbrev OI (R:Rel):Prop:=∀b:Gu,Hw b→R [arg (CF b)] [] (B (!Fe b)) []
theorem Akw (D:Dn) (hC:O8 (D AmR)):OI (Body D Ku):=by
 intro b hb
 simp -implicitDefEqProofs
 refine Aa (hC b hb) ?_
 simp -implicitDefEqProofs
theorem Ajr (D:Dn) (h1:OI (D QD)) (hC:H9 D (D EZ)):Hg (Body D Ma):=by
 intro path hb
 have hl:=hb.1
 by_cases g1:path.length≤4
 rotate_left
 ·have g1':¬(path.length:Int)≤4:=by omega
  simp -implicitDefEqProofs [g1',g1,ES]
 have g1':(path.length:Int)≤4:=by omega
 simp -implicitDefEqProofs [g1']
 refine Aa (hC path QD [] (fun b=> !Fe b) hl ER (fun j hj=>h1 path[j] (hb.2 j hj))) ?_
 have e:(path.any fun b=> !Fe b)= !path.all Fe:=by rw[List.all_eq_not_any_not];simp
 rw[e]
 generalize hq:path.all Fe=q
 simp -implicitDefEqProofs [ES,g1,hq]
abbrev Gb (R:Rel):Prop:=∀xs:List Int,xs.length≤4194304→R [.sl 1 1 xs.length (ints xs)] [] (.agg (CU ⟨xs,[]⟩)) []
theorem Amv (D:Dn):Gb (Body D NN):=by
 intro xs h
 have h1:xs.length*8≤1099511627776:=by omega
 simp -implicitDefEqProofs [h1]
theorem AmG (D:Dn):Gb (Body D NW):=by
 intro xs h
 have h1:xs.length*8≤1099511627776:=by omega
 simp -implicitDefEqProofs [h1]
def isOpen (path:List Gu) (vs:List Int):Bool:=A9 vs&&(A7 path ⟨vs.take 1,[]⟩).2
abbrev G9 (R:Rel):Prop:=∀(path:List Gu) (vs:List Int),lnS Hw path→vs.length≤4194304→R [.sl 1 4 path.length (path.flatMap CF),.sl 1 1 vs.length (ints vs)] [] (B (isOpen path vs)) []
theorem Anx (D:Dn) (hA:BK (D EJ)) (hH:Gb (D UY)) (hP:FN (D Mj)):G9 (Body D NS):=by
 intro path vs hb hv
 simp -implicitDefEqProofs
 refine Aa (hA vs (by unfold maxLen;omega)) ?_
 by_cases h1:A9 vs=true
 rotate_left
 ·simp -implicitDefEqProofs [h1,isOpen]
 have hpos:=XJ h1
 have h1l:(1:Int)≤vs.length:=by omega
 have h1n:1≤vs.length:=by omega
 have hlen:(vs.take 1).length=1:=by simp;omega
 have hmin:min 1 vs.length=1:=by omega
 simp -implicitDefEqProofs [h1,h1l,h1n]
 have hh:=hH (vs.take 1) (by omega)
 rw[hlen]at hh
 refine Aa (hh) ?_
 simp -implicitDefEqProofs [hmin]
 have hp:=hP path ⟨vs.take 1,[]⟩ hb ⟨by simp;omega,Adb⟩
 simp -implicitDefEqProofs [hmin]at hp
 refine Aa (hp) ?_
 simp -implicitDefEqProofs [isOpen,h1]
theorem Amm (D:Dn) (hA:BK (D FM)) (hH:Gb (D Uz)) (hP:FN (D L9)):G9 (Body D Og):=by
 intro path vs hb hv
 simp -implicitDefEqProofs
 refine Aa (hA vs (by unfold maxLen;omega)) ?_
 by_cases h1:A9 vs=true
 rotate_left
 ·simp -implicitDefEqProofs [h1,isOpen]
 have hpos:=XJ h1
 have h1l:(1:Int)≤vs.length:=by omega
 have h1n:1≤vs.length:=by omega
 have hlen:(vs.take 1).length=1:=by simp;omega
 have hmin:min 1 vs.length=1:=by omega
 simp -implicitDefEqProofs [h1,h1l,h1n]
 have hh:=hH (vs.take 1) (by omega)
 rw[hlen]at hh
 refine Aa (hh) ?_
 simp -implicitDefEqProofs [hmin]
 have hp:=hP path ⟨vs.take 1,[]⟩ hb ⟨by simp;omega,Adb⟩
 simp -implicitDefEqProofs [hmin]at hp
 refine Aa (hp) ?_
 simp -implicitDefEqProofs [isOpen,h1]
def KQ (path:List Gu) (v:Int):Bool:= !(A7 path ⟨[v],[]⟩).2
def Bj (path:List Gu) (vs:List Int):List Int:=if A9 vs=true then vs.filter (KQ path)else []
abbrev Gc (R:Rel):Prop:=∀(path:List Gu) (vs:List Int),lnS Hw path→vs.length≤4194304→R [.sl 1 4 path.length (path.flatMap CF),.sl 1 1 vs.length (ints vs)] [] (.sl 0 1 (Bj path vs).length (ints (Bj path vs))) []
theorem Au0 (path:List Gu) (v:Int):isOpen path [v]= !KQ path v:=by
 unfold isOpen KQ
 by_cases h:A9 [v]=true
 ·simp[h]
 ·have:A7 path ⟨[v],[]⟩=(AQ,false):=by
   unfold A7 CP
   have h':A9 [v]=false:=by simpa using h
   simp[h']
  simp[h,this]
theorem AhU (D:Dn) (hA:BK (D EJ)) (hO:G9 (D Vd)):Gc (Body D K6):=by
 intro path vs hb hv
 by_cases h1:A9 vs=true
 rotate_left
 ·have e:Bj path vs=[]:=by unfold Bj;rw[if_neg h1]
  rw[e]
  simp -implicitDefEqProofs
  refine Ae (fun k s=>s=⟨[.sl 1 4 path.length (path.flatMap CF),.sl 1 1 vs.length (ints vs),.undef,.arr 3,I 0,.undef,.undef],[.free,.free,.free,.arr 1 0 0 (ints [])]⟩) ?_ 0 _ (by simp)
  intro k s hs
  subst hs
  by_cases h0:0<vs.length
  ·simp -implicitDefEqProofs [h0]
   refine Aa (hA vs (by unfold maxLen;omega)) ?_
   simp -implicitDefEqProofs [h1]
  ·simp -implicitDefEqProofs [h0]
 have e:Bj path vs=vs.filter (KQ path):=by unfold Bj;rw[if_pos h1]
 rw[e]
 simp -implicitDefEqProofs
 refine Ae (fun k s=>∃j o1 o2,j+k=vs.length∧s=⟨[.sl 1 4 path.length (path.flatMap CF),.sl 1 1 vs.length (ints vs),.undef,.arr 3,I j,.undef,.undef],[.free,o1,o2,.arr 1 0 ((vs.take j).filter (KQ path)).length (ints ((vs.take j).filter (KQ path)))]⟩) ?_ (vs.length) _ ⟨0,.free,.free,by simp,by simp⟩
 intro k s ⟨j,o1,o2,hj,hs⟩
 subst hs
 by_cases hjn:j<vs.length
 ·have hw:IntKind.i64.wrap ((j:Int)+1)=(j+1:Nat):=by rw[Ad (by omega) (by omega)];simp
  have hst:=LH (p:=KQ path) hjn
  have hfl:=OM (p:=KQ path) (xs:=vs) (j:=j)
  have hb1:(((vs.take j).filter (KQ path)).length+1)*8≤1099511627776:=by omega
  have hw1:IntKind.i64.wrap ((j:Int)+1)=(j:Int)+1:=Ad (by omega) (by omega)
  have hj1:j+1≤vs.length:=by omega
  have hj2:(j:Int)+1≤vs.length:=by omega
  have hdt:(vs.drop j).take 1=[vs[j]]:=by rw[List.drop_eq_getElem_cons hjn];rfl
  simp -implicitDefEqProofs [hjn]
  refine Aa (hA vs (by unfold maxLen;omega)) ?_
  have hjj:(j:Int)≤(j:Int)+1:=by omega
  have h11:j+1-j=1:=by omega
  simp -implicitDefEqProofs [h1,hw1,hj1,hj2,hdt,hjn,hjj,h11]
  refine Aa (hO path [vs[j]] hb (by simp)) ?_
  rw[Au0]
  by_cases h2:KQ path vs[j]=true
  ·rw[if_pos h2]at hst
   simp -implicitDefEqProofs [h2,hjn,hb1]
   exact⟨k-1,by omega,j+1,by omega,by simp[hw],by rw[hst];simp,by rw[hst]⟩
  ·rw[if_neg h2,List.append_nil]at hst
   simp -implicitDefEqProofs [h2]
   exact⟨k-1,by omega,j+1,by omega,by simp[hw],by rw[hst],by rw[hst]⟩
 ·have e2:=Nh (p:=KQ path) (xs:=vs) (j:=j) (by omega)
  simp -implicitDefEqProofs [hjn,e2]
theorem Ahi (D:Dn) (hA:BK (D FM)) (hH:Gb (D Uz)) (hP:FN (D L9)):Gc (Body D Lb):=by
 intro path vs hb hv
 simp -implicitDefEqProofs
 refine Aa (hA vs (by unfold maxLen;omega)) ?_
 by_cases h1:A9 vs=true
 rotate_left
 ·have e:Bj path vs=[]:=by unfold Bj;rw[if_neg h1]
  rw[e]
  simp -implicitDefEqProofs [h1]
 have e:Bj path vs=vs.filter (KQ path):=by unfold Bj;rw[if_pos h1]
 rw[e]
 simp -implicitDefEqProofs [h1]
 refine Ae (fun k s=>∃j v4 o1 o2 o3 o4 o5 o6 o7 o8,j+k=vs.length∧s=⟨[.sl 1 4 path.length (path.flatMap CF),.undef,.undef,.arr 9,v4,.undef,.undef,.sl 1 1 vs.length (ints vs),I vs.length,I j,.undef,.undef],[.free,o1,o2,o3,o4,o5,o6,o7,o8,.arr 1 0 ((vs.take j).filter (KQ path)).length (ints ((vs.take j).filter (KQ path)))]⟩) ?_ (vs.length) _ ⟨0,.undef,.free,.free,.free,.free,.free,.free,.free,.free,by simp,by simp⟩
 intro k s ⟨j,v4,o1,o2,o3,o4,o5,o6,o7,o8,hj,hs⟩
 subst hs
 by_cases hjn:j<vs.length
 ·have hw:IntKind.i64.wrap ((j:Int)+1)=(j+1:Nat):=by rw[Ad (by omega) (by omega)];simp
  have hst:=LH (p:=KQ path) hjn
  have hfl:=OM (p:=KQ path) (xs:=vs) (j:=j)
  have hb1:(((vs.take j).filter (KQ path)).length+1)*8≤1099511627776:=by omega
  simp -implicitDefEqProofs [hjn]
  refine Aa (hH [vs[j]] (by simp)) ?_
  simp -implicitDefEqProofs
  refine Aa (hP path ⟨[vs[j]],[]⟩ hb ⟨by simp,Adb⟩) ?_
  have hq:KQ path vs[j]= !(A7 path ⟨[vs[j]],[]⟩).2:=rfl
  generalize A7 path ⟨[vs[j]],[]⟩=r at hq
  by_cases h2:r.2=true
  ·have h3:¬KQ path vs[j]=true:=by rw[hq,h2];simp
   rw[if_neg h3,List.append_nil]at hst
   simp -implicitDefEqProofs [h2]
   exact⟨k-1,by omega,j+1,by omega,by simp[hw],by rw[hst],by rw[hst]⟩
  ·have h3:KQ path vs[j]=true:=by rw[hq];simpa using h2
   rw[if_pos h3]at hst
   simp -implicitDefEqProofs [h2,hb1]
   exact⟨k-1,by omega,j+1,by omega,by simp[hw],by rw[hst];simp,by rw[hst]⟩
 ·have e2:=Nh (p:=KQ path) (xs:=vs) (j:=j) (by omega)
  simp -implicitDefEqProofs [hjn,e2]
end Go.Eng.T
namespace Go.Eng.T
set_option maxRecDepth 20000
set_option maxHeartbeats 1000000
def leftOf (a b:List Int):List Int:=a.filter fun v=> !decide (v∈b)
abbrev WC (R:Rel):Prop:=∀a b:List Int,a.length≤4194304→b.length≤4194304→R [.sl 1 1 a.length (ints a),.sl 1 1 b.length (ints b)] [] (.sl 0 1 (leftOf a b).length (ints (leftOf a b))) []
theorem AxI (D:Dn) (hH:R6 (D Jl)):WC (Body D Uo):=by
 intro a b ha hb
 have hres:leftOf a b=a.filter (fun v=> !decide (v∈b)):=rfl
 rw[hres]
 simp -implicitDefEqProofs
 refine Ae (fun k s=>∃j o1 o2,j+k=a.length∧s=⟨[.sl 1 1 a.length (ints a),.sl 1 1 b.length (ints b),.undef,.arr 3,I j,.undef,.undef],[.free,o1,o2,.arr 1 0 ((a.take j).filter (fun v=> !decide (v∈b))).length (ints ((a.take j).filter (fun v=> !decide (v∈b))))]⟩) ?_ (a.length) _ ⟨0,.free,.free,by simp,by simp⟩
 intro k s ⟨j,o1,o2,hj,hs⟩
 subst hs
 by_cases hjn:j<a.length
 ·have hw:IntKind.i64.wrap ((j:Int)+1)=(j+1:Nat):=by rw[Ad (by omega) (by omega)];simp
  have hst:=LH (p:=fun v=> !decide (v∈b)) hjn
  have hln:=OM (p:=fun v=> !decide (v∈b)) (xs:=a) (j:=j)
  have hbd:(((a.take j).filter (fun v=> !decide (v∈b))).length+1)*8≤1099511627776:=by omega
  simp -implicitDefEqProofs [hjn]
  refine Aa (hH b _ (by unfold maxLen;omega)) ?_
  by_cases h1:a[j]∈b
  ·rw[if_neg (by simp[h1]),List.append_nil]at hst
   simp -implicitDefEqProofs [h1,hjn,hbd]
   exact⟨k-1,by omega,j+1,by omega,by simp[hw],by rw[hst],by rw[hst]⟩
  ·rw[if_pos (by simp[h1])]at hst
   simp -implicitDefEqProofs [h1,hjn,hbd]
   exact⟨k-1,by omega,j+1,by omega,by simp[hw],by rw[hst];simp,by rw[hst]⟩
 ·have hx:=Nh (p:=fun v=> !decide (v∈b)) (xs:=a) (j:=j) (by omega)
  simp -implicitDefEqProofs [hjn,hx]
theorem AuX (D:Dn) (hH:R6 (D Bn)):WC (Body D Ut):=by
 intro a b ha hb
 have hres:leftOf a b=a.filter (fun v=> !decide (v∈b)):=rfl
 rw[hres]
 simp -implicitDefEqProofs
 refine Ae (fun k s=>∃j v4 o1 o2,j+k=a.length∧s=⟨[.undef,.sl 1 1 b.length (ints b),.undef,.arr 3,v4,.sl 1 1 a.length (ints a),I a.length,I j,.undef,.undef],[.free,o1,o2,.arr 1 0 ((a.take j).filter (fun v=> !decide (v∈b))).length (ints ((a.take j).filter (fun v=> !decide (v∈b))))]⟩) ?_ (a.length) _ ⟨0,.undef,.free,.free,by simp,by simp⟩
 intro k s ⟨j,v4,o1,o2,hj,hs⟩
 subst hs
 by_cases hjn:j<a.length
 ·have hw:IntKind.i64.wrap ((j:Int)+1)=(j+1:Nat):=by rw[Ad (by omega) (by omega)];simp
  have hst:=LH (p:=fun v=> !decide (v∈b)) hjn
  have hln:=OM (p:=fun v=> !decide (v∈b)) (xs:=a) (j:=j)
  have hbd:(((a.take j).filter (fun v=> !decide (v∈b))).length+1)*8≤1099511627776:=by omega
  simp -implicitDefEqProofs [hjn]
  refine Aa (hH b _ (by unfold maxLen;omega)) ?_
  by_cases h1:a[j]∈b
  ·rw[if_neg (by simp[h1]),List.append_nil]at hst
   simp -implicitDefEqProofs [h1,hjn,hbd]
   exact⟨k-1,by omega,j+1,by omega,by simp[hw],by rw[hst],by rw[hst]⟩
  ·rw[if_pos (by simp[h1])]at hst
   simp -implicitDefEqProofs [h1,hjn,hbd]
   exact⟨k-1,by omega,j+1,by omega,by simp[hw],by rw[hst];simp,by rw[hst]⟩
 ·have hx:=Nh (p:=fun v=> !decide (v∈b)) (xs:=a) (j:=j) (by omega)
  simp -implicitDefEqProofs [hjn,hx]
def upTo (xs:List Int) (i:Nat):Bool:=decide (i=0)||decide (xs.getD (i-1) 0<xs.getD i 0)
def HZ (xs:List Int):Bool:=Nl (upTo xs) xs.length&&allIn xs 0 255
abbrev MC (R:Rel):Prop:=∀xs:List Int,xs.length≤maxLen→R [.sl 1 1 xs.length (ints xs)] [] (B (HZ xs)) []
theorem AfI {xs:List Int} {j:Nat} (h:j<xs.length) (hn:¬Q5 xs[j] 0 255):HZ xs=false:=by unfold HZ;rw[AqU h hn];simp
theorem Yi {xs:List Int} {j:Nat} (h:j<xs.length) (hn:upTo xs j=false):HZ xs=false:=by unfold HZ;rw[AkG h hn];simp
theorem Ad6 (xs:List Int):upTo xs 0=true:=by simp[upTo]
theorem YF {xs:List Int} {j:Nat} (h0:¬j=0) (h:j<xs.length) (h':j-1<xs.length):upTo xs j=decide (xs[j-1]<xs[j]):=by
 unfold upTo
 rw[Xm h,Xm h']
 simp[h0]
theorem AvH (D:Dn) (hI:SG (D CB)):MC (Body D Tm):=by
 intro xs hl
 unfold maxLen at hl
 simp -implicitDefEqProofs
 refine Ae (fun k s=>∃j,j+k=xs.length∧allIn (xs.take j) 0 255=true∧Nl (upTo xs) j=true∧s=⟨[.sl 1 1 xs.length (ints xs),.undef,I j,.undef,.undef],[]⟩) ?_ (xs.length) _ ⟨0,by simp,by simp[allIn],by simp,by simp⟩
 intro k s ⟨j,hj,hp,hr,hs⟩
 subst hs
 by_cases hjn:j<xs.length
 ·have hw:IntKind.i64.wrap ((j:Int)+1)=(j+1:Nat):=by rw[Ad (by omega) (by omega)];simp
  have hst:=IC (upTo xs) j
  rw[hr,Bool.true_and]at hst
  simp -implicitDefEqProofs [hjn]
  refine Aa (hI _ _ _) ?_
  by_cases h1:Q5 xs[j] 0 255
  rotate_left
  ·simp -implicitDefEqProofs [h1,AfI hjn h1]
  by_cases h0:j=0
  ·subst h0
   simp -implicitDefEqProofs [h1]
   exact⟨k-1,by omega,1,by omega,by rw[Sw hjn,hp];simp[h1],by rw[hst,Ad6],by simpa using hw⟩
  ·have hw2:IntKind.i64.wrap ((j:Int)-1)=((j-1:Nat):Int):=by rw[Ad (by omega) (by omega)];omega
   have h2:(0:Int)<j:=by omega
   have h2':0<j:=by omega
   have h3:j-1<xs.length:=by omega
   rw[YF h0 hjn h3]at hst
   by_cases h4:xs[j-1]<xs[j]
   ·have h4':¬xs[j]≤xs[j-1]:=by omega
    simp -implicitDefEqProofs [h1,h2,h2',hw2,h3,hjn,h4']
    exact⟨k-1,by omega,j+1,by omega,by rw[Sw hjn,hp];simp[h1],by rw[hst];simp[h4],by simp[hw]⟩
   ·have e:=Yi hjn (by rw[YF h0 hjn h3];simp[h4])
    have h4':xs[j]≤xs[j-1]:=by omega
    simp -implicitDefEqProofs [h1,h2,h2',hw2,h3,hjn,h4',e]
 ·obtain rfl:j=xs.length:=by omega
  have e:HZ xs=true:=by unfold HZ;rw[hr,Ae1 (by omega) hp];rfl
  simp -implicitDefEqProofs [e]
theorem AtN (D:Dn) (hN:Jv (D Kb)):MC (Body D Ux):=by
 intro xs hl
 have hl0:=hl
 unfold maxLen at hl
 simp -implicitDefEqProofs
 refine Ae (fun k s=>∃j,j+k=xs.length∧Nl (upTo xs) j=true∧s=⟨[.sl 1 1 xs.length (ints xs),.undef,.undef,.undef,.sl 1 1 xs.length (ints xs),I xs.length,I j,.undef,.undef],[]⟩) ?_ (xs.length) _ ⟨0,by simp,by simp,by simp⟩
 intro k s ⟨j,hj,hr,hs⟩
 subst hs
 by_cases hjn:j<xs.length
 ·have hw:IntKind.i64.wrap ((j:Int)+1)=(j+1:Nat):=by rw[Ad (by omega) (by omega)];simp
  have hst:=IC (upTo xs) j
  rw[hr,Bool.true_and]at hst
  by_cases h0:j=0
  ·subst h0
   simp -implicitDefEqProofs [hjn]
   exact⟨k-1,by omega,1,by omega,by rw[hst,Ad6],by simpa using hw⟩
  ·have hw2:IntKind.i64.wrap ((j:Int)-1)=((j-1:Nat):Int):=by rw[Ad (by omega) (by omega)];omega
   have h2:(0:Int)<j:=by omega
   have h2':0<j:=by omega
   have h3:j-1<xs.length:=by omega
   rw[YF h0 hjn h3]at hst
   by_cases h4:xs[j-1]<xs[j]
   ·have h4':¬xs[j]≤xs[j-1]:=by omega
    simp -implicitDefEqProofs [h2,h2',hw2,h3,hjn,h4']
    exact⟨k-1,by omega,j+1,by omega,by rw[hst];simp[h4],by simp[hw]⟩
   ·have e:=Yi hjn (by rw[YF h0 hjn h3];simp[h4])
    have h4':xs[j]≤xs[j-1]:=by omega
    simp -implicitDefEqProofs [h2,h2',hw2,h3,hjn,h4',e]
 ·obtain rfl:j=xs.length:=by omega
  have e:HZ xs=allIn xs 0 255:=by unfold HZ;rw[hr];rfl
  simp -implicitDefEqProofs
  refine Aa (hN xs _ _ hl0) ?_
  simp -implicitDefEqProofs [e]
def Az (e:AL):Bool:=A9 e.versions&&(decide (e.tags.length≤5)&&(HZ e.tags&&(!e.tags.any Am&&(decide (e.path.length≤4)&&(e.path.all Hz&&decide (Q5 e.cls 0 5))))))
abbrev ET (R:Rel):Prop:=∀e:AL,Ir e→R [arg (Ak e)] [] (B (Az e)) []
theorem Anc (D:Dn) (hI:SG (D CB)) (hR:EW (D J8)) (hX:RQ (D XP)) (hA:BK (D EJ)):ET (Body D OA):=by
 intro e hl
 obtain⟨hl1,hl2,hl3⟩:=hl
 have hl4:=hl3.1
 have hl2':=hl2
 unfold Jr at hl2
 unfold maxLen at hl2 hl4
 simp -implicitDefEqProofs
 refine Ae (fun k s=>∃j,j+k=e.tags.length∧allIn (e.tags.take j) 0 255=true∧Nl (upTo e.tags) j=true∧(e.tags.take j).any Am=false∧s=⟨[.undef,.ptr 0 0,.undef,I j,.undef,.undef,.undef,.undef,.undef],[.var ((Ak e).map (AZ 1))]⟩) ?_ (e.tags.length) _ ⟨0,by simp,by simp[allIn],by simp,by simp,by simp⟩
 intro k s ⟨j,hj,hp,hr,hq,hs⟩
 subst hs
 by_cases hjn:j<e.tags.length
 ·have hw:IntKind.i64.wrap ((j:Int)+1)=(j+1:Nat):=by rw[Ad (by omega) (by omega)];simp
  have hst:=IC (upTo e.tags) j
  rw[hr,Bool.true_and]at hst
  have hsq:=X5 (p:=Am) hjn
  rw[hq,Bool.false_or]at hsq
  simp -implicitDefEqProofs [hjn]
  refine Aa (hI _ _ _) ?_
  by_cases h1:Q5 e.tags[j] 0 255
  rotate_left
  ·have e0:Az e=false:=by unfold Az;rw[AfI hjn h1];simp
   simp -implicitDefEqProofs [h1,e0]
  simp -implicitDefEqProofs [h1,hjn]
  refine Aa (hR _) ?_
  by_cases h5:Am e.tags[j]=true
  ·have e0:Az e=false:=by unfold Az;rw[Ph hjn h5];simp
   simp -implicitDefEqProofs [h5,e0]
  have h5':Am e.tags[j]=false:=by simpa using h5
  by_cases h0:j=0
  ·subst h0
   simp -implicitDefEqProofs [h1,h5']
   exact⟨k-1,by omega,1,by omega,by rw[Sw hjn,hp];simp[h1],by rw[hst,Ad6],by simpa using hsq.trans h5',by simpa using hw⟩
  ·have hw2:IntKind.i64.wrap ((j:Int)-1)=((j-1:Nat):Int):=by rw[Ad (by omega) (by omega)];omega
   have h2:(0:Int)<j:=by omega
   have h2':0<j:=by omega
   have h3:j-1<e.tags.length:=by omega
   rw[YF h0 hjn h3]at hst
   by_cases h4:e.tags[j-1]<e.tags[j]
   ·have h4':¬e.tags[j]≤e.tags[j-1]:=by omega
    simp -implicitDefEqProofs [h1,h5',h2,h2',hw2,h3,hjn,h4']
    exact⟨k-1,by omega,j+1,by omega,by rw[Sw hjn,hp];simp[h1],by rw[hst];simp[h4],by simpa using hsq.trans h5',by simp[hw]⟩
   ·have e0:Az e=false:=by unfold Az;rw[Yi hjn (by rw[YF h0 hjn h3];simp[h4])];simp
    have h4':e.tags[j]≤e.tags[j-1]:=by omega
    simp -implicitDefEqProofs [h1,h5',h2,h2',hw2,h3,hjn,h4',e0]
 obtain rfl:j=e.tags.length:=by omega
 have et:HZ e.tags=true:=by unfold HZ;rw[hr,Ae1 (by omega) hp];rfl
 have er:e.tags.any Am=false:=any_none (by omega) hq
 simp -implicitDefEqProofs
 refine Ae (fun k s=>∃j,j+k=e.path.length∧(e.path.take j).all Hz=true∧s=⟨[.undef,.ptr 0 0,.undef,.undef,I j,.undef,.undef,.undef,.undef],[.var ((Ak e).map (AZ 1))]⟩) ?_ (e.path.length) _ ⟨0,by simp,by simp,by simp⟩
 intro k s ⟨j,hj,hb,hs⟩
 subst hs
 by_cases hjn:j<e.path.length
 ·have hw:IntKind.i64.wrap ((j:Int)+1)=(j+1:Nat):=by rw[Ad (by omega) (by omega)];simp
  have hst:=UI (p:=Hz) hjn
  rw[hb,Bool.true_and]at hst
  simp -implicitDefEqProofs [hjn]
  refine Aa (hX _ (hl3.2 j hjn)) ?_
  by_cases h1:Hz e.path[j]=true
  ·simp -implicitDefEqProofs [h1]
   exact⟨k-1,by omega,j+1,by omega,by simpa using hst.trans h1,by simp[hw]⟩
  ·have e0:Az e=false:=by unfold Az;rw[Sz hjn (by simpa using h1)];simp
   simp -implicitDefEqProofs [h1,e0]
 have eb:e.path.all Hz=true:=by rw[←Yz (j:=j) (by omega),hb]
 simp -implicitDefEqProofs [hjn]
 refine Aa (hA _ hl1) ?_
 by_cases g1:A9 e.versions=true
 rotate_left
 ·simp -implicitDefEqProofs [g1,Az]
 by_cases g2:e.tags.length≤5
 rotate_left
 ·have g2':¬(e.tags.length:Int)≤5:=by omega
  simp -implicitDefEqProofs [g1,g2,g2',Az]
 have g2':(e.tags.length:Int)≤5:=by omega
 by_cases g3:e.path.length≤4
 rotate_left
 ·have g3':¬(e.path.length:Int)≤4:=by omega
  simp -implicitDefEqProofs [g1,g2,g2',g3,g3',Az]
 have g3':(e.path.length:Int)≤4:=by omega
 simp -implicitDefEqProofs [g1,g2',g3']
 refine Aa (hI _ _ _) ?_
 have ee:Az e=decide (Q5 e.cls 0 5):=by unfold Az;rw[et,er,eb];simp[g1,g2,g3]
 simp -implicitDefEqProofs [ee]
abbrev QY (R:Rel):Prop:=∀b:Gu,Hw b→R [arg (CF b)] [] (B (!Hz b)) []
theorem Anj (D:Dn) (hX:RQ (D AfA)):QY (Body D Lj):=by
 intro b hb
 simp -implicitDefEqProofs
 refine Aa (hX b hb) ?_
 simp -implicitDefEqProofs
theorem Ah0 {α:Type} (p:α→Bool) (xs:List α):(xs.any fun x=> !p x)= !xs.all p:=by rw[List.all_eq_not_any_not];simp
theorem AlO (D:Dn) (hA:BK (D FM)) (hT:MC (D ZA)) (hH:F9 (D Oe)) (h1:QY (D Sq)) (hC:H9 D (D EZ)) (hI:SG (D Bz)):ET (Body D Oi):=by
 intro e hl
 obtain⟨hl1,hl2,hl3⟩:=hl
 simp -implicitDefEqProofs
 refine Aa (hA _ hl1) ?_
 by_cases g1:A9 e.versions=true
 rotate_left
 ·simp -implicitDefEqProofs [g1,Az]
 by_cases g2:e.tags.length≤5
 rotate_left
 ·have g2':¬(e.tags.length:Int)≤5:=by omega
  simp -implicitDefEqProofs [g1,g2,g2',Az]
 have g2':(e.tags.length:Int)≤5:=by omega
 simp -implicitDefEqProofs [g1,g2']
 refine Aa (hT _ hl2) ?_
 by_cases g4:HZ e.tags=true
 rotate_left
 ·simp -implicitDefEqProofs [g4,Az]
 simp -implicitDefEqProofs [g4]
 refine Aa (hH _ hl2) ?_
 by_cases g5:e.tags.any Am=true
 ·have e0:Az e=false:=by unfold Az;rw[g5];simp
  generalize e.tags.any Am=q at g5
  subst g5
  simp -implicitDefEqProofs [e0]
 have g5':e.tags.any Am=false:=by simpa using g5
 have ee:Az e=(decide (e.path.length≤4)&&(e.path.all Hz&&decide (Q5 e.cls 0 5))):=by unfold Az;rw[g5',g1,g4];simp[g2]
 rw[ee]
 generalize e.tags.any Am=q at g5'
 subst g5'
 by_cases g3:e.path.length≤4
 rotate_left
 ·have g3':¬(e.path.length:Int)≤4:=by omega
  simp -implicitDefEqProofs [g3,g3']
 have g3':(e.path.length:Int)≤4:=by omega
 simp -implicitDefEqProofs [g3,g3']
 refine Aa (hC e.path Sq [] (fun b=> !Hz b) hl3.1 ER (fun j hj=>h1 e.path[j] (hl3.2 j hj))) ?_
 rw[Ah0]
 generalize e.path.all Hz=q
 by_cases g6:q=true
 rotate_left
 ·simp -implicitDefEqProofs [g6]
 simp -implicitDefEqProofs [g6]
 refine Aa (hI _ _ _) ?_
 simp -implicitDefEqProofs
theorem AFs {b:Gu} (h:Ct b≤4194304):Hw b:=by
 unfold Ct at h
 exact⟨by unfold Jr maxLen;omega,by unfold Jr maxLen;omega⟩
theorem AC8 {p:List Gu} (h:Bw Ct p≤4194304):lnS Hw p:=
 ⟨by have:=IK (f:=Ct) (xs:=p);unfold maxLen;omega,fun j hj=>AFs (by have:=size_at (f:=Ct) hj;omega)⟩
theorem XR {e:AL} (h:Ac e≤4194304):Ir e:=by
 unfold Ac at h
 exact⟨by unfold Jr maxLen;omega,by unfold Jr maxLen;omega,AC8 (by omega)⟩
theorem Q6 {w:World} (h:Ay w≤4194304) {n:Nat} (hn:n<w.ends.length):Ac w.ends[n]≤4194304:=by
 have:=size_at (f:=Ac) hn
 have:=(NZ h).2.2.1
 omega
theorem U1 {e:AL} (h:Ac e≤4194304):e.versions.length≤4194304:=by unfold Ac at h;omega
theorem Asa (path:List Gu) (vs:List Int):(Bj path vs).length≤vs.length:=by
 unfold Bj
 split
 ·exact List.length_filter_le _ _
 ·simp
end Go.Eng.T
namespace Go.Eng.T
set_option maxRecDepth 20000
set_option maxHeartbeats 2000000
abbrev Ml (D:Dn) (R:Rel):Prop:=∀(xs:List (List Int)) (g:Nat) (caps:List V) (p:List Int→Bool),xs.length≤maxLen→Ke caps→(∀(j:Nat) (h:j<xs.length),D g (.sl 1 1 xs[j].length (ints xs[j])::caps) [] (B (p xs[j])) [])→R [Kh xs,.fn g caps] [] (I (Gs p xs 0)) []
theorem AgP (D:Dn):Ml D (Body D EK):=by
 intro xs g caps p hl hc hp
 unfold maxLen at hl
 simp -implicitDefEqProofs
 refine Ae (fun k s=>∃j,j+k=xs.length∧Gs p xs 0=Gs p (xs.drop j) j∧s=⟨[Kh xs,.fn g caps,.undef,.undef,I xs.length,I j,.undef,.undef],[]⟩) ?_ (xs.length) _ ⟨0,by simp,by simp,by simp⟩
 intro k s ⟨j,hj,hi,hs⟩
 subst hs
 by_cases hjn:j<xs.length
 ·have hw:IntKind.i64.wrap ((j:Int)+1)=(j+1:Nat):=by rw[Ad (by omega) (by omega)];simp
  rw[Nz hjn]at hi
  simp -implicitDefEqProofs [hjn,hc.1,hc.2.1]
  refine Aa (hp j hjn) ?_
  by_cases he:p xs[j]=true
  ·rw[if_pos he]at hi
   simp -implicitDefEqProofs [he,hi]
  ·rw[if_neg he]at hi
   simp -implicitDefEqProofs [he]
   exact⟨k-1,by omega,j+1,by omega,by simpa using hi,by simp[hw]⟩
 ·rw[Sm (by omega)]at hi
  simp -implicitDefEqProofs [hjn,hi]
abbrev G7 (D:Dn) (R:Rel):Prop:=∀(xs:List (List Int)) (g:Nat) (caps:List V) (p:List Int→Bool),xs.length≤maxLen→Ke caps→(∀(j:Nat) (h:j<xs.length),D g (.sl 1 1 xs[j].length (ints xs[j])::caps) [] (B (p xs[j])) [])→R [Kh xs,.fn g caps] [] (B (xs.any p)) []
theorem AaD (D:Dn) (hI:Ml D (D MV)):G7 D (Body D Ef):=by
 intro xs g caps p hl hc hp
 simp -implicitDefEqProofs [hc.2.2]
 refine Aa (hI xs g caps p hl hc hp) ?_
 have e:decide (0≤Gs p xs 0)=xs.any p:=by rw[Bool.eq_iff_iff];simp only[decide_eq_true_eq];rw[QN (by omega)]
 simp -implicitDefEqProofs [e]
def reach (s l:List Int):Bool:= !decide (BJ s l=0)
def Ii (s:List Int) (ls:List (List Int)):Bool:=A9 s&&ls.all (reach s)
abbrev Ja (R:Rel):Prop:=∀(s:List Int) (ls:List (List Int)),s.length≤4194304→IA ls≤4194304→R [.sl 1 1 s.length (ints s),Kh ls] [] (B (Ii s ls)) []
theorem Ark (D:Dn) (hB:EX (D NC)) (hA:BK (D EJ)):Ja (Body D Rt):=by
 intro sv ls hs hl
 have hll:=Rv (xs:=ls)
 simp -implicitDefEqProofs
 refine Ae (fun k s=>∃j,j+k=ls.length∧(ls.take j).all (reach sv)=true∧s=⟨[.sl 1 1 sv.length (ints sv),Kh ls,.undef,I j,.undef,.undef],[]⟩) ?_ (ls.length) _ ⟨0,by simp,by simp,by simp⟩
 intro k s ⟨j,hj,hp,hs⟩
 subst hs
 by_cases hjn:j<ls.length
 ·have hw:IntKind.i64.wrap ((j:Int)+1)=(j+1:Nat):=by rw[Ad (by omega) (by omega)];simp
  have hst:=UI (p:=reach sv) hjn
  rw[hp,Bool.true_and]at hst
  have hra:=Yu hjn
  simp -implicitDefEqProofs [hjn]
  refine Aa (hB sv _ hs (by omega)) ?_
  by_cases h1:BJ sv ls[j]=0
  ·have e:Ii sv ls=false:=by unfold Ii;rw[Sz hjn (by simp[reach,h1])];simp
   simp -implicitDefEqProofs [h1,e,WT]
  ·simp -implicitDefEqProofs [h1,WT]
   exact⟨k-1,by omega,j+1,by omega,by simpa using hst.trans (show reach sv ls[j]=true by simp[reach,h1]),by simp[hw]⟩
 ·have e:Ii sv ls=A9 sv:=by unfold Ii;rw[←Yz (j:=j) (by omega),hp];simp
  simp -implicitDefEqProofs [hjn]
  refine Aa (hA sv (by unfold maxLen;omega)) ?_
  simp -implicitDefEqProofs [e]
abbrev VJ (R:Rel):Prop:=∀(s l:List Int),s.length≤4194304→l.length≤4194304→R [.sl 1 1 l.length (ints l),.rptr 1 [.sl 0 1 s.length (ints s)] 0] [] (B (!reach s l)) []
theorem As2 (D:Dn) (hB:EX (D Ou)):VJ (Body D Ol):=by
 intro s l hs hl
 simp -implicitDefEqProofs
 refine Aa (hB s l hs hl) ?_
 simp -implicitDefEqProofs [reach,WT]
theorem AsE (D:Dn) (hA:BK (D FM)) (h1':VJ (D UQ)) (hC:G7 D (D Ga)):Ja (Body D RO):=by
 intro s ls hs hl
 have hll:=Rv (xs:=ls)
 simp -implicitDefEqProofs
 refine Aa (hA s (by unfold maxLen;omega)) ?_
 by_cases h1:A9 s=true
 rotate_left
 ·simp -implicitDefEqProofs [h1,Ii]
 simp -implicitDefEqProofs [h1]
 refine Aa (hC ls UQ _ (fun l=> !reach s l) (by unfold maxLen;omega) (ZU ER) (fun j hj=>h1' s ls[j] hs (by have:=Yu hj;omega))) ?_
 rw[Ah0]
 generalize hq:ls.all (reach s)=q
 simp -implicitDefEqProofs [Ii,h1,hq]
def Mk (k:Int):Bool:=decide (Q5 k 1 2147483646)
abbrev I6 (R:Rel):Prop:=∀k:Int,R [I k] [] (B (Mk k)) []
theorem AqX (D:Dn) (hI:SG (D CB)):I6 (Body D NU):=by
 intro k
 simp -implicitDefEqProofs
 refine Aa (hI _ _ _) ?_
 simp -implicitDefEqProofs [Mk]
theorem As7 (D:Dn) (hI:SG (D Bz)):I6 (Body D NA):=by
 intro k
 simp -implicitDefEqProofs
 refine Aa (hI _ _ _) ?_
 simp -implicitDefEqProofs [Mk]
def KD (w:World):Bool:=Ii w.server (GY w)&&(HZ w.tags&&Mk w.key)
def JO (w:World):Bool:=Bp w.rollout&&(decide (w.rollout.version∈w.server)&&(decide (Q5 w.least 1 100)&&decide (Q5 w.percent 0 100)))
def GH (w:World):Bool:=decide (w.stage.length≤60)&&(decide (w.log.length≤60)&&(decide (Q5 w.now 0 10000)&&(decide (Q5 w.hurt 0 w.log.length)&&decide (Q5 w.reached 0 w.rollout.stages.length))))
def Ca (w:World):Bool:=KD w&&(decide (w.ends.length≤6)&&(w.ends.all Az&&(JO w&&GH w)))
abbrev Pd (R:Rel):Prop:=∀w:World,Ay w≤4194304→R [arg (EF w)] [] (B (Ca w)) []
abbrev Yy (R:Rel):Prop:=∀e:AL,Ac e≤4194304→R [arg (Ak e)] [] (B (!Az e)) []
theorem At8 (D:Dn) (hE:ET (D Oc)):Yy (Body D Qa):=by
 intro e h
 simp -implicitDefEqProofs
 refine Aa (hE e (XR h)) ?_
 simp -implicitDefEqProofs
theorem Au5 (D:Dn) (hL:Kz (D ZI)) (hA:Ja (D XL)) (hT:MC (D ZA)) (hK:I6 (D UB)) (h1':Yy (D WL)) (hC:GK D (D Gr)) (hR:FR (D Qk)) (hH:R6 (D Bn)) (hI:SG (D Bz)):Pd (Body D Ue):=by
 intro w hsz
 have hs:=NZ hsz
 have he:=JQ hsz
 simp -implicitDefEqProofs
 refine Aa (hL w hsz) ?_
 simp -implicitDefEqProofs
 refine Aa (hA w.server (GY w) hs.1 (AcH hsz)) ?_
 by_cases a1:Ii w.server (GY w)=true
 rotate_left
 ·simp -implicitDefEqProofs [a1,Ca,KD]
 simp -implicitDefEqProofs [a1]
 refine Aa (hT w.tags (by unfold maxLen;omega)) ?_
 by_cases a2:HZ w.tags=true
 rotate_left
 ·simp -implicitDefEqProofs [a2,Ca,KD]
 simp -implicitDefEqProofs [a2]
 refine Aa (hK w.key) ?_
 by_cases a3:Mk w.key=true
 rotate_left
 ·simp -implicitDefEqProofs [a3,Ca,KD]
 by_cases e1:w.ends.length≤6
 rotate_left
 ·have e1':(6:Int)<w.ends.length:=by omega
  simp -implicitDefEqProofs [a3,e1',e1,Ca]
 have e1':¬(6:Int)<w.ends.length:=by omega
 simp -implicitDefEqProofs [a3,e1']
 refine Aa (hC w.ends WL [] (fun e=> !Az e) (by unfold maxLen;omega) ER (fun j hj=>h1' w.ends[j] (Q6 hsz hj))) ?_
 rw[Ah0]
 generalize hq:w.ends.all Az=q
 by_cases e2:q=true
 rotate_left
 ·have e:Ca w=false:=by unfold Ca;rw[hq];simp[e2]
  simp -implicitDefEqProofs [e2,e]
 have hq':=hq.trans e2
 simp -implicitDefEqProofs [e2]
 refine Aa (hR w.rollout (Ro hsz)) ?_
 by_cases b1:Bp w.rollout=true
 rotate_left
 ·simp -implicitDefEqProofs [b1,Ca,JO]
 simp -implicitDefEqProofs [b1]
 refine Aa (hH w.server _ (by unfold maxLen;omega)) ?_
 by_cases b2:w.rollout.version∈w.server
 rotate_left
 ·simp -implicitDefEqProofs [b2,Ca,JO]
 simp -implicitDefEqProofs [b2]
 refine Aa (hI _ _ _) ?_
 by_cases b3:Q5 w.least 1 100
 rotate_left
 ·simp -implicitDefEqProofs [b3,Ca,JO]
 simp -implicitDefEqProofs [b3]
 refine Aa (hI _ _ _) ?_
 by_cases b4:Q5 w.percent 0 100
 rotate_left
 ·simp -implicitDefEqProofs [b4,Ca,JO]
 by_cases c1:w.stage.length≤60
 rotate_left
 ·have c1':¬(w.stage.length:Int)≤60:=by omega
  simp -implicitDefEqProofs [b4,c1',c1,Ca,GH]
 have c1':(w.stage.length:Int)≤60:=by omega
 by_cases c2:w.log.length≤60
 rotate_left
 ·have c2':¬(w.log.length:Int)≤60:=by omega
  simp -implicitDefEqProofs [b4,c1',c2',c2,Ca,GH]
 have c2':(w.log.length:Int)≤60:=by omega
 simp -implicitDefEqProofs [b4,c1',c2']
 refine Aa (hI _ _ _) ?_
 by_cases c3:Q5 w.now 0 10000
 rotate_left
 ·simp -implicitDefEqProofs [b4,c1',c2',c3,Ca,GH]
 simp -implicitDefEqProofs [b4,c1',c2',c3]
 refine Aa (hI _ _ _) ?_
 by_cases c4:Q5 w.hurt 0 w.log.length
 rotate_left
 ·simp -implicitDefEqProofs [b4,c1',c2',c3,c4,Ca,GH]
 simp -implicitDefEqProofs [b4,c1',c2',c3,c4]
 refine Aa (hI _ _ _) ?_
 have ec:GH w=decide (Q5 w.reached 0 w.rollout.stages.length):=by unfold GH;simp[c1,c2,c3,c4]
 have ee:Ca w=GH w:=by unfold Ca KD JO;rw[hq'];simp[a1,a2,a3,e1,b1,b2,b3,b4]
 simp -implicitDefEqProofs [ee,ec]
theorem AvL (D:Dn) (hE:ET (D N9)) (hV:BK (D EJ)) (hT:MC (D AlP)) (hK:I6 (D UR)) (hR:FR (D Qo)) (hH:R6 (D Jl)) (hL:Kz (D Zu)) (hA:Ja (D XD)) (hI:SG (D CB)):Pd (Body D Tq):=by
 intro w hsz
 have hs:=NZ hsz
 have he:=JQ hsz
 simp -implicitDefEqProofs
 refine Ae (fun k s=>∃j,j+k=w.ends.length∧(w.ends.take j).all Az=true∧s=⟨[.undef,.ptr 0 0,.undef,I j,.undef,.undef,.undef],[.var ((EF w).map (AZ 1)),.free]⟩) ?_ (w.ends.length) _ ⟨0,by simp,by simp,by simp⟩
 intro k s ⟨j,hj,hp,hs⟩
 subst hs
 by_cases hjn:j<w.ends.length
 ·have hw:IntKind.i64.wrap ((j:Int)+1)=(j+1:Nat):=by rw[Ad (by omega) (by omega)];simp
  have hst:=UI (p:=Az) hjn
  rw[hp,Bool.true_and]at hst
  simp -implicitDefEqProofs [hjn]
  refine Aa (hE w.ends[j] (XR (Q6 hsz hjn))) ?_
  by_cases h1:Az w.ends[j]=true
  ·simp -implicitDefEqProofs [h1]
   exact⟨k-1,by omega,j+1,by omega,by simpa using hst.trans h1,by simp[hw]⟩
  ·have e:Ca w=false:=by unfold Ca;rw[Sz hjn (by simpa using h1)];simp
   simp -implicitDefEqProofs [h1,e]
 have hq':w.ends.all Az=true:=by rw[←Yz (j:=j) (by omega),hp]
 simp -implicitDefEqProofs [hjn]
 refine Aa (hV w.server (by unfold maxLen;omega)) ?_
 by_cases v1:A9 w.server=true
 rotate_left
 ·simp -implicitDefEqProofs [v1,Ca,KD,Ii]
 simp -implicitDefEqProofs [v1]
 refine Aa (hT w.tags (by unfold maxLen;omega)) ?_
 by_cases a2:HZ w.tags=true
 rotate_left
 ·simp -implicitDefEqProofs [a2,Ca,KD]
 simp -implicitDefEqProofs [a2]
 refine Aa (hK w.key) ?_
 by_cases a3:Mk w.key=true
 rotate_left
 ·simp -implicitDefEqProofs [a3,Ca,KD]
 by_cases e1:w.ends.length≤6
 rotate_left
 ·have e1':(6:Int)<w.ends.length:=by omega
  simp -implicitDefEqProofs [a3,e1',e1,Ca]
 have e1':¬(6:Int)<w.ends.length:=by omega
 simp -implicitDefEqProofs [a3,e1']
 refine Aa (hR w.rollout (Ro hsz)) ?_
 by_cases b1:Bp w.rollout=true
 rotate_left
 ·simp -implicitDefEqProofs [b1,Ca,JO]
 simp -implicitDefEqProofs [b1]
 refine Aa (hH w.server _ (by unfold maxLen;omega)) ?_
 by_cases b2:w.rollout.version∈w.server
 rotate_left
 ·simp -implicitDefEqProofs [b2,Ca,JO]
 simp -implicitDefEqProofs [b2]
 refine Aa (hL w hsz) ?_
 simp -implicitDefEqProofs [b2]
 refine Aa (hA w.server (GY w) hs.1 (AcH hsz)) ?_
 by_cases a1:Ii w.server (GY w)=true
 rotate_left
 ·simp -implicitDefEqProofs [a1,Ca,KD]
 simp -implicitDefEqProofs [a1]
 refine Aa (hI _ _ _) ?_
 by_cases b3:Q5 w.least 1 100
 rotate_left
 ·simp -implicitDefEqProofs [b3,Ca,JO]
 simp -implicitDefEqProofs [b3]
 refine Aa (hI _ _ _) ?_
 by_cases b4:Q5 w.percent 0 100
 rotate_left
 ·simp -implicitDefEqProofs [b4,Ca,JO]
 by_cases c1:w.stage.length≤60
 rotate_left
 ·have c1':¬(w.stage.length:Int)≤60:=by omega
  simp -implicitDefEqProofs [b4,c1',c1,Ca,GH]
 have c1':(w.stage.length:Int)≤60:=by omega
 by_cases c2:w.log.length≤60
 rotate_left
 ·have c2':¬(w.log.length:Int)≤60:=by omega
  simp -implicitDefEqProofs [b4,c1',c2',c2,Ca,GH]
 have c2':(w.log.length:Int)≤60:=by omega
 simp -implicitDefEqProofs [b4,c1',c2']
 refine Aa (hI _ _ _) ?_
 by_cases c3:Q5 w.now 0 10000
 rotate_left
 ·simp -implicitDefEqProofs [b4,c1',c2',c3,Ca,GH]
 simp -implicitDefEqProofs [b4,c1',c2',c3]
 refine Aa (hI _ _ _) ?_
 by_cases c4:Q5 w.hurt 0 w.log.length
 rotate_left
 ·simp -implicitDefEqProofs [b4,c1',c2',c3,c4,Ca,GH]
 simp -implicitDefEqProofs [b4,c1',c2',c3,c4]
 refine Aa (hI _ _ _) ?_
 have ec:GH w=decide (Q5 w.reached 0 w.rollout.stages.length):=by unfold GH;simp[c1,c2,c3,c4]
 have ee:Ca w=GH w:=by unfold Ca KD JO;rw[hq'];simp[a1,a2,a3,e1,b1,b2,b3,b4]
 simp -implicitDefEqProofs [ee,ec]
end Go.Eng.T
namespace Go.Eng.T
set_option maxRecDepth 20000
set_option maxHeartbeats 1000000
def Ib:List Int→Int→Nat
 | [],_=>0
 | x::r,v=>if x<v then Ib r v+1 else 0
theorem Awp:∀(l:List Int) (v:Int),Ib l v≤l.length
 | [],_=>Nat.le_refl 0
 | x::r,v=>by
  have:=Awp r v
  simp only[Ib,List.length_cons]
  split<;>omega
theorem AyA {l:List Int} {v:Int} {j:Nat} (h:j<l.length) (hv:l[j]<v):Ib (l.drop j) v=Ib (l.drop (j+1)) v+1:=by
 rw[List.drop_eq_getElem_cons h]
 simp only[Ib,if_pos hv]
theorem AnJ {l:List Int} {v:Int} {j:Nat} (h:j<l.length) (hv:¬l[j]<v):Ib (l.drop j) v=0:=by
 rw[List.drop_eq_getElem_cons h]
 simp only[Ib,if_neg hv]
theorem ABn {l:List Int} {v:Int} {j:Nat} (h:l.length≤j):Ib (l.drop j) v=0:=by rw[List.drop_eq_nil_of_le h];rfl
def Auv (l:List Int) (i:Nat) (v:Int):List Int:=l.take i++v::l.drop i
theorem ABF {l:List Int} {i:Nat} {v:Int} (h:i≤l.length):(Auv l i v).length=l.length+1:=by simp[Auv];omega
def TV (l:List Int) (v:Int):List Int:=if l[Ib l v]? =some v then l else Auv l (Ib l v) v
theorem ABj (l:List Int) (v:Int):(TV l v).length≤l.length+1:=by
 unfold TV
 split
 ·omega
 ·rw[ABF (Awp l v)];omega
abbrev Apd (R:Rel):Prop:=∀(l:List Int) (v:Int),l.length≤4194304→R [.sl 1 1 l.length (ints l),I v] [] (.sl 0 1 (TV l v).length (ints (TV l v))) []
theorem ADj (D:Dn):Apd (Body D Yb):=by
 intro l v hl
 simp -implicitDefEqProofs
 refine Ae (fun k s=>∃j,j+k=l.length∧Ib l v=j+Ib (l.drop j) v∧s=⟨[.sl 1 1 l.length (ints l),I v,.undef,I j,.undef,.undef],[.free,.free,.free,.free,.free,.free,.free]⟩) ?_ (l.length) _ ⟨0,by simp,by simp,by simp⟩
 intro k s ⟨j,hj,hp,hs⟩
 subst hs
 by_cases hjn:j<l.length
 ·have hw:IntKind.i64.wrap ((j:Int)+1)=(j+1:Nat):=by rw[Ad (by omega) (by omega)];simp
  by_cases hv:l[j]<v
  ·have hst:=AyA hjn hv
   simp -implicitDefEqProofs [hjn,hv]
   exact⟨k-1,by omega,j+1,by omega,by omega,by simp[hw]⟩
  ·have hst:=AnJ hjn hv
   have hpe:Ib l v=j:=by omega
   have b1:l.length*8≤1099511627776:=by omega
   have b2:j*8≤1099511627776:=by omega
   have b3:(j+1)*8≤1099511627776:=by omega
   have b4:(j+1+(l.length-j))*8≤1099511627776:=by omega
   have hjl:j≤l.length:=by omega
   have hjl':(j:Int)≤l.length:=by omega
   have hmin:min j l.length=j:=by omega
   have htk:List.take (l.length-j) (List.drop j l)=List.drop j l:=List.take_of_length_le (by simp)
   by_cases he:l[j]=v
   ·have e:TV l v=l:=by unfold TV;rw[hpe,List.getElem?_eq_getElem hjn,he,if_pos rfl]
    rw[e]
    simp -implicitDefEqProofs [hjn,hv,he,b1]
   ·have e:TV l v=l.take j++v::l.drop j:=by unfold TV Auv;rw[hpe,List.getElem?_eq_getElem hjn,if_neg (by simpa using he)]
    have el:(TV l v).length=j+1+(l.length-j):=by rw[e];simp;omega
    simp -implicitDefEqProofs [hjn,hv,he,hjl,hjl',hmin,b2,b3,b4]
    rw[el,e]
    simp[htk,Ake]
 ·have hst:=ABn (v:=v) (l:=l) (j:=j) (by omega)
  have hpe:Ib l v=j:=by omega
  have b1:l.length*8≤1099511627776:=by omega
  have b2:j*8≤1099511627776:=by omega
  have b3:(j+1)*8≤1099511627776:=by omega
  have b4:(j+1+(l.length-j))*8≤1099511627776:=by omega
  have hjl:j≤l.length:=by omega
  have hjl':(j:Int)≤l.length:=by omega
  have hmin:min j l.length=j:=by omega
  have htk:List.take (l.length-j) (List.drop j l)=List.drop j l:=List.take_of_length_le (by simp)
  have e:TV l v=l.take j++v::l.drop j:=by unfold TV Auv;rw[hpe,List.getElem?_eq_none (by omega),if_neg (by simp)]
  have el:(TV l v).length=j+1+(l.length-j):=by rw[e];simp;omega
  simp -implicitDefEqProofs [hjn,hjl,hjl',hmin,b2,b3,b4]
  rw[el,e]
  simp[htk,Ake]
end Go.Eng.T
namespace Go.Eng.T
set_option maxRecDepth 20000
set_option maxHeartbeats 1000000
def AG7 {α:Type} (f:α→α) (xs:List α) (j:Nat):List α:=(xs.take j).map f++xs.drop j
section
variable {α:Type} {f:α→α} {xs:List α} {j:Nat}
@[simp] theorem AGX (h:j≤xs.length):(AG7 f xs j).length=xs.length:=by simp[AG7];omega
end
end Go.Eng.T
namespace Go.Eng.T
end Go.Eng.T
namespace Go.Eng.T
set_option maxRecDepth 20000
set_option maxHeartbeats 2000000
def AEO {α:Type} (f:Nat→α→α) (xs:List α) (j:Nat):List α:=xs.mapIdx fun i x=>if i<j then f i x else x
section
variable {α:Type} {f:Nat→α→α} {xs:List α} {j:Nat}
@[simp] theorem AGH:(AEO f xs j).length=xs.length:=by simp[AEO]
end
def ACe (w:World) (i:Nat) (e:AL):AL:=if isIn w.rollout i w.ends.length=true then⟨TV e.versions w.rollout.version,e.tags,e.path,e.cls⟩else e
def AAy (w:World):Bool:=Bp w.rollout&& !w.rollout.off
def enter (w:World):World:=if AAy w=true then {w with ends:=w.ends.mapIdx (ACe w),stage:=[],reached:=max w.reached (w.rollout.pos+1)}else w
abbrev Ath (R:Rel):Prop:=∀a b:Int,R [I a,I b] [] (I (max a b)) []
abbrev AvR (R:Rel):Prop:=∀a b:Int,R [I a,I b] [] (I (min a b)) []
theorem AFB (D:Dn):Ath (Body D Ad9):=by
 intro a b
 by_cases h:a<b
 ·have e:max a b=b:=by omega
  simp -implicitDefEqProofs [h,e]
 ·have e:max a b=a:=by omega
  simp -implicitDefEqProofs [h,e]
theorem AFf (D:Dn):AvR (Body D AeB):=by
 intro a b
 by_cases h:a<b
 ·have e:min a b=a:=by omega
  simp -implicitDefEqProofs [h,e]
  intro;omega
 ·have e:min a b=b:=by omega
  simp -implicitDefEqProofs [h,e]
  intro;omega
end Go.Eng.T
namespace Go.Eng.T
set_option maxRecDepth 20000
set_option maxHeartbeats 2000000
open Go.Lib (compact compactUpTo keeps)
abbrev Up (l:List Int):Prop:=l.Pairwise (· < ·)
theorem Az8:∀ {a b:List Int},Up a→Up b→(∀x,x∈a↔x∈b)→a=b
 | [],[],_,_,_=>rfl
 | [],y::b,_,_,h=>by have:=(h y).2 (by simp);simp at this
 | x::a,[],_,_,h=>by have:=(h x).1 (by simp);simp at this
 | x::a,y::b,ha,hb,h=>by
  rw[Up,List.pairwise_cons]at ha hb
  have hxy:x=y:=by
   have h1:=(h x).1 (by simp)
   have h2:=(h y).2 (by simp)
   rcases List.mem_cons.1 h1 with e | h1
   ·exact e
   ·rcases List.mem_cons.1 h2 with e | h2
    ·exact e.symm
    ·have:=hb.1 x h1;have:=ha.1 y h2;omega
  subst hxy
  congr 1
  refine Az8 ha.2 hb.2 fun z=>⟨fun hz=> ?_,fun hz=> ?_⟩
  ·rcases List.mem_cons.1 ((h z).1 (by simp[hz]))with e | h1
   ·subst e;have:=ha.1 z hz;omega
   ·exact h1
  ·rcases List.mem_cons.1 ((h z).2 (by simp[hz]))with e | h1
   ·subst e;have:=hb.1 z hz;omega
   ·exact h1
theorem ABL:∀(l:List Int) (v x:Int),x∈TV l v↔x∈l∨x=v:=by
 intro l v x
 unfold TV
 split
 ·rename_i h
  constructor
  ·exact .inl
  ·rintro (h1 | rfl)
   ·exact h1
   ·exact List.mem_of_getElem? h
 ·unfold Auv
  rw[List.mem_append,List.mem_cons]
  have:x∈l↔x∈l.take (Ib l v)∨x∈l.drop (Ib l v):=by
   conv=>lhs;rw[←List.take_append_drop (Ib l v) l,List.mem_append]
  rw[this]
  constructor
  ·rintro (h1 | h1 | h1)
   ·exact .inl (.inl h1)
   ·exact .inr h1
   ·exact .inl (.inr h1)
  ·rintro ((h1 | h1) | h1)
   ·exact .inl h1
   ·exact .inr (.inr h1)
   ·exact .inr (.inl h1)
theorem AfR:∀(l:List Int) (v x:Int),x∈l.take (Ib l v)→x<v
 | [],v,x,h=>by simp at h
 | y::r,v,x,h=>by
  simp only[Ib]at h
  split at h
  ·rw[List.take_succ_cons]at h
   rcases List.mem_cons.1 h with rfl | h
   ·assumption
   ·exact AfR r v x h
  ·simp at h
theorem ADc:∀ {l:List Int} (v:Int),Up l→Up (TV l v):=by
 intro l v hl
 unfold TV
 split
 ·exact hl
 ·rename_i hne
  unfold Auv Up
  rw[List.pairwise_append,List.pairwise_cons]
  have hb:=AfR l v
  have hafter:∀y,y∈l.drop (Ib l v)→v<y:=by
   intro y hy
   by_cases hk:Ib l v<l.length
   ·have hs:=AnJ (l:=l) (v:=v) hk (by
     intro hlt
     have key:∀(l:List Int) (h:Ib l v<l.length),¬l[Ib l v]<v:=by
      intro l
      induction l with
      | nil=>intro h;simp at h
      | cons x r ih=>
       intro h
       by_cases hx:x<v
       ·have e:Ib (x::r) v=Ib r v+1:=by simp[Ib,hx]
        have h':Ib r v<r.length:=by rw[e]at h;simpa using h
        have:=ih h'
        simp only[e,List.getElem_cons_succ]
        exact this
       ·have e:Ib (x::r) v=0:=by simp[Ib,hx]
        simp only[e,List.getElem_cons_zero]
        exact hx
     exact key l hk hlt)
    have key:∀(l:List Int) (h:Ib l v<l.length),¬l[Ib l v]<v:=by
     intro l
     induction l with
     | nil=>intro h;simp at h
     | cons x r ih=>
      intro h
      by_cases hx:x<v
      ·have e:Ib (x::r) v=Ib r v+1:=by simp[Ib,hx]
       have h':Ib r v<r.length:=by rw[e]at h;simpa using h
       have:=ih h'
       simp only[e,List.getElem_cons_succ]
       exact this
      ·have e:Ib (x::r) v=0:=by simp[Ib,hx]
       simp only[e,List.getElem_cons_zero]
       exact hx
    have h1:=key l hk
    have h2:l[Ib l v]≠v:=by
     intro e;apply hne;rw[List.getElem?_eq_getElem hk,e]
    rw[List.drop_eq_getElem_cons hk]at hy
    have hp:(l[Ib l v]::l.drop (Ib l v+1)).Pairwise (· < ·):=by rw[←List.drop_eq_getElem_cons hk];exact hl.drop
    rw[List.pairwise_cons]at hp
    rcases List.mem_cons.1 hy with rfl | hy
    ·omega
    ·have:=hp.1 y hy;omega
   ·rw[List.drop_eq_nil_of_le (by omega)]at hy;simp at hy
  refine⟨hl.take,⟨hafter,hl.drop⟩,fun a ha b hb'=> ?_⟩
  have h1:=hb a ha
  rcases List.mem_cons.1 hb' with rfl | hb'
  ·exact h1
  ·have:=hafter b hb';omega
def JR (l:List Int) (xs:List Int):List Int:=xs.foldl TV l
theorem An6:∀ {xs l:List Int},Up l→Up (JR l xs)
 | [],_,h=>h
 | x::xs,l,h=>An6 (xs:=xs) (ADc x h)
theorem AkO:∀(xs l:List Int) (x:Int),x∈JR l xs↔x∈l∨x∈xs
 | [],l,x=>by simp[JR]
 | y::xs,l,x=>by
  have:=AkO xs (TV l y) x
  unfold JR at *
  rw[List.foldl_cons,this,ABL,List.mem_cons]
  constructor
  ·rintro ((h | h) | h)
   ·exact .inl h
   ·exact .inr (.inl h)
   ·exact .inr (.inr h)
  ·rintro (h | h | h)
   ·exact .inl (.inl h)
   ·exact .inl (.inr h)
   ·exact .inr h
theorem ArU (zs:List Int) (x:Int):x∈compact zs↔x∈zs:=by
 have hget:∀i,i<zs.length→zs.toArray[i]! =zs[i]! :=fun i _=>by simp
 unfold compact compactUpTo
 simp only[List.mem_map,List.mem_filter,List.mem_range]
 constructor
 ·rintro ⟨i,⟨hi,_⟩,rfl⟩
  rw[hget i hi,getElem!_pos zs i hi]
  exact List.getElem_mem hi
 ·intro hx
  have key:∀n,(h:n<zs.length)→zs[n]=x→∃i,(i<zs.length∧keeps zs.toArray i=true)∧zs.toArray[i]! =x:=by
   intro n
   induction n with
   | zero=>intro h e;exact⟨0,⟨h,by simp[keeps]⟩,by rw[hget 0 h,getElem!_pos zs 0 h,e]⟩
   | succ n ih=>
    intro h e
    by_cases hk:zs[n]=x
    ·exact ih (by omega) hk
    ·refine⟨n+1,⟨h,?_⟩,by rw[hget _ h,getElem!_pos zs _ h,e]⟩
     unfold keeps
     rw[show n+1-1=n by omega,hget _ h,hget n (by omega),getElem!_pos zs _ h,getElem!_pos zs n (by omega),e]
     simp
     exact fun h=>hk h.symm
  obtain⟨n,hn,e⟩:=List.getElem_of_mem hx
  exact key n hn e
theorem AvI (zs:List Int) (h:zs.Pairwise (·≤·)):Up (compact zs):=by
 have hget:∀i,i<zs.length→zs.toArray[i]! =zs[i]! :=fun i _=>by simp
 unfold compact compactUpTo Up
 rw[List.pairwise_map]
 have hr:((List.range zs.length).filter (keeps zs.toArray)).Pairwise (· < ·):=List.Pairwise.filter _ List.pairwise_lt_range
 refine hr.imp_of_mem ?_
 intro i j hi hj hij
 simp only[List.mem_filter,List.mem_range]at hi hj
 have hk:=hj.2
 unfold keeps at hk
 have h0:¬j=0:=by omega
 simp only[h0,false_or,decide_eq_true_eq]at hk
 rw[hget j hj.1,hget (j-1) (by omega),getElem!_pos zs j hj.1,getElem!_pos zs (j-1) (by omega)]at hk
 rw[hget i hi.1,hget j hj.1,getElem!_pos zs i hi.1,getElem!_pos zs j hj.1]
 rw[List.pairwise_iff_getElem]at h
 have h1:=h (j-1) j (by omega) hj.1 (by omega)
 have h2:zs[i]≤zs[j-1]:=by
  by_cases e:i=j-1
  ·simp[e]
  ·exact h i (j-1) hi.1 (by omega) (by omega)
 omega
def Adp (l:List Int):List Int:=l.mergeSort fun x y=>decide (x≤y)
theorem Aea (l:List Int):(Adp l).length=l.length:=by simp[Adp]
theorem AwX (l:List Int) (x:Int):x∈Adp l↔x∈l:=by simp[Adp]
theorem ACb (l:List Int):(Adp l).Pairwise (·≤·):=by
 have:=List.pairwise_mergeSort (le:=fun x y:Int=>decide (x≤y)) (fun a b c h1 h2=>by simp at *;omega) (fun a b=>by simp;omega) l
 exact this.imp fun h=>by simpa using h
theorem Ao3 (l:List Int):compact (Adp l)=JR [] l:=by
 refine Az8 (AvI _ (ACb l)) (An6 List.Pairwise.nil) fun x=> ?_
 rw[ArU,AwX,AkO]
 simp
abbrev AAo (R:Rel):Prop:=∀l:List Int,l.length≤4194304→R [.arr 0] [.arr 1 0 l.length (ints l)] (.tup []) [.arr 1 0 l.length (ints (Adp l))]
abbrev CompactS (R:Rel):Prop:=∀l:List Int,l.length≤4194304→R [.arr 0] [.arr 1 0 l.length (ints l)] (.sl 0 1 (compact l).length (ints (compact l))) [.dead]
def Lv (w:World) (xs:List BA):List Int:=(xs.filter (Hy w)).map (·.fin)
def Yh (w:World):List Int:=JR [] (Lv w w.log)
theorem Aky {w:World} {xs:List BA} {j:Nat} (h:j<xs.length):Lv w (xs.take (j+1))=Lv w (xs.take j)++(if Hy w xs[j]then [xs[j].fin]else []):=by
 unfold Lv
 rw[Aaf h]
 by_cases hp:Hy w xs[j]=true<;>simp[hp]
theorem Aoj {w:World} {xs:List BA} {j:Nat} (h:xs.length≤j):Lv w (xs.take j)=Lv w xs:=by rw[List.take_of_length_le h]
theorem Aeo {w:World} {xs:List BA} {j:Nat}:(Lv w (xs.take j)).length≤j:=by
 unfold Lv
 rw[List.length_map]
 exact AdH
theorem Akk (l xs:List Int) (y:Int):JR l (xs++ [y])=TV (JR l xs) y:=by unfold JR;rw[List.foldl_append];rfl
theorem AiT:∀(xs l:List Int),(JR l xs).length≤l.length+xs.length
 | [],l=>by simp[JR]
 | x::xs,l=>by
  have h1:=AiT xs (TV l x)
  have h2:=ABj l x
  unfold JR at *
  simp only[List.foldl_cons,List.length_cons]
  omega
abbrev LB (R:Rel):Prop:=∀w:World,Ay w≤4194304→R [arg (EF w)] [] (.sl 0 1 (Yh w).length (ints (Yh w))) []
theorem AqR (D:Dn) (hB:ZH (D AcV)) (hP:Apd (D ArV)):LB (Body D Rx):=by
 intro w hsz
 have hl:=Rc hsz
 have hres:Yh w=JR [] (Lv w w.log):=rfl
 rw[hres]
 simp -implicitDefEqProofs
 refine Ae (fun k s=>∃j o2,j+k=w.log.length∧s=⟨[.undef,.ptr 0 0,.undef,.arr 3,I j,.undef,.undef],[.var ((EF w).map (AZ 1)),.free,o2,.arr 1 0 (JR [] (Lv w (w.log.take j))).length (ints (JR [] (Lv w (w.log.take j))))]⟩) ?_ (w.log.length) _ ⟨0,.free,by simp,by simp[Lv,JR]⟩
 intro k s ⟨j,o2,hj,hs⟩
 subst hs
 by_cases hjn:j<w.log.length
 ·have hw:IntKind.i64.wrap ((j:Int)+1)=(j+1:Nat):=by rw[Ad (by omega) (by omega)];simp
  have hst:=Aky (w:=w) hjn
  have hfl:=Aeo (w:=w) (xs:=w.log) (j:=j)
  have hpl:=AiT (Lv w (w.log.take j)) []
  simp only[List.length_nil,Nat.zero_add]at hpl
  simp -implicitDefEqProofs [hjn]
  refine Aa (hB w w.log[j] (AbN hsz hjn)) ?_
  by_cases h1:Hy w w.log[j]=true
  ·rw[if_pos h1]at hst
   simp -implicitDefEqProofs [h1,hjn]
   refine Aa (hP (JR [] (Lv w (w.log.take j))) w.log[j].fin (by omega)) ?_
   simp -implicitDefEqProofs
   exact⟨k-1,by omega,j+1,by omega,by simp[hw],by rw[hst,Akk],by rw[hst,Akk]⟩
  ·rw[if_neg h1,List.append_nil]at hst
   simp -implicitDefEqProofs [h1]
   exact⟨k-1,by omega,j+1,by omega,by simp[hw],by rw[hst],by rw[hst]⟩
 ·have hx:=Aoj (w:=w) (xs:=w.log) (j:=j) (by omega)
  simp -implicitDefEqProofs [hjn,hx]
theorem AqL (D:Dn) (hB:ZH (D AbS)) (hS:AAo (D U2)) (hC:CompactS (D Rm)):LB (Body D PE):=by
 intro w hsz
 have hl:=Rc hsz
 have hres:Yh w=compact (Adp (Lv w w.log)):=(Ao3 _).symm
 rw[hres]
 simp -implicitDefEqProofs
 refine Ae (fun k s=>∃j v4 o2 o3 o4,j+k=w.log.length∧s=⟨[.undef,.ptr 0 0,.undef,.arr 6,v4,.sl 1 8 w.log.length (w.log.flatMap Ar),I w.log.length,I j,.undef,.undef],[.var ((EF w).map (AZ 1)),.free,o2,o3,o4,.free,.arr 1 0 (Lv w (w.log.take j)).length (ints (Lv w (w.log.take j)))]⟩) ?_ (w.log.length) _ ⟨0,.undef,.free,.free,.free,by simp,by simp[Lv]⟩
 intro k s ⟨j,v4,o2,o3,o4,hj,hs⟩
 subst hs
 by_cases hjn:j<w.log.length
 ·have hw:IntKind.i64.wrap ((j:Int)+1)=(j+1:Nat):=by rw[Ad (by omega) (by omega)];simp
  have hst:=Aky (w:=w) hjn
  have hfl:=Aeo (w:=w) (xs:=w.log) (j:=j)
  have hbd:((Lv w (w.log.take j)).length+1)*8≤1099511627776:=by omega
  simp -implicitDefEqProofs [hjn]
  refine Aa (hB w w.log[j] (AbN hsz hjn)) ?_
  by_cases h1:Hy w w.log[j]=true
  ·rw[if_pos h1]at hst
   simp -implicitDefEqProofs [h1,hjn,hbd]
   exact⟨k-1,by omega,j+1,by omega,by simp[hw],by rw[hst];simp,by rw[hst]⟩
  ·rw[if_neg h1,List.append_nil]at hst
   simp -implicitDefEqProofs [h1]
   exact⟨k-1,by omega,j+1,by omega,by simp[hw],by rw[hst],by rw[hst]⟩
 ·have hx:=Aoj (w:=w) (xs:=w.log) (j:=j) (by omega)
  have hfl:=Aeo (w:=w) (xs:=w.log) (j:=w.log.length)
  rw[List.take_length]at hfl
  simp -implicitDefEqProofs [hjn,hx]
  refine Aa (hS _ (by omega)) ?_
  simp -implicitDefEqProofs [Aea]
  have hc:=hC (Adp (Lv w w.log)) (by rw[Aea];omega)
  rw[Aea]at hc
  refine Aa (hc) ?_
  simp -implicitDefEqProofs
def AkQ (r:EH) (i:Nat):EH:=⟨r.version,r.stages,i,r.off⟩
def Lr (r:EH) (n:Int):Nat→Int
 | 0=>0
 | k+1=>max (Lr r n k) (countIn (AkQ r k) n)
def G5 (r:EH) (n s:Int):Int:=if Bp r=true∧SH s 1 r.stages.length then Lr r n s.toNat else 0
abbrev LJ (R:Rel):Prop:=∀(r:EH) (n s:Int),r.stages.length≤4194304→R [arg (Gx r),I n,I s] [] (I (G5 r n s)) []
theorem AqT (D:Dn) (hR:FR (D Qo)) (hI:SG (D CB)) (hCp:Sv (D Zx)) (hC:OW (D Anf)) (hM:Ath (D AnS)):LJ (Body D RI):=by
 intro r n st hl
 simp -implicitDefEqProofs
 refine Aa (hR r hl) ?_
 by_cases h1:Bp r=true
 rotate_left
 ·have e:G5 r n st=0:=by unfold G5;rw[if_neg (by simp[h1])]
  simp -implicitDefEqProofs [h1,e]
 simp -implicitDefEqProofs [h1]
 refine Aa (hI _ _ _) ?_
 by_cases h2:SH st 1 r.stages.length
 rotate_left
 ·have e:G5 r n st=0:=by unfold G5;rw[if_neg (fun h=>h2 h.2)]
  simp -implicitDefEqProofs [h2,e]
 obtain⟨m,rfl⟩:∃m:Nat,st=m:=⟨st.toNat,by have:=h2.1;omega⟩
 have hm:m≤r.stages.length:=by have:=h2.2;omega
 have e:G5 r n m=Lr r n m:=by unfold G5;rw[if_pos ⟨h1,h2⟩];simp
 rw[e]
 simp -implicitDefEqProofs [h2]
 refine Aa (hCp r hl) ?_
 simp -implicitDefEqProofs
 refine Ae (fun k s=>∃j at0,j+k=m∧s=⟨[.undef,I n,I m,.undef,.undef,I (Lr r n j),.ptr 2 0,I j,.undef,.undef],[.var ((Gx r).map (AZ 1)),.arr 1 0 r.stages.length (ints r.stages),.var [.sc (.int .i64 r.version),.arr 1,.sc (.int .i64 at0),.sc (.bool r.off)]]⟩) ?_ (m) _ ⟨0,r.pos,by simp,by simp[Lr]⟩
 intro k s ⟨j,at0,hj,hs⟩
 subst hs
 by_cases hjn:j<m
 ·have hw:IntKind.i64.wrap ((j:Int)+1)=(j+1:Nat):=by rw[Ad (by omega) (by omega)];simp
  simp -implicitDefEqProofs [hjn]
  refine Aa (hC (AkQ r j) n hl) ?_
  simp -implicitDefEqProofs
  refine Aa (hM _ _) ?_
  simp -implicitDefEqProofs
  exact⟨k-1,by omega,j+1,by omega,by simp[Lr],by simp[hw]⟩
 ·obtain rfl:j=m:=by omega
  simp -implicitDefEqProofs
theorem Arm (D:Dn) (hR:FR (D Qk)) (hI:SG (D Bz)) (hC:OW (D Amd)):LJ (Body D RJ):=by
 intro r n st hl
 simp -implicitDefEqProofs
 refine Aa (hR r hl) ?_
 by_cases h1:Bp r=true
 rotate_left
 ·have e:G5 r n st=0:=by unfold G5;rw[if_neg (by simp[h1])]
  simp -implicitDefEqProofs [h1,e]
 simp -implicitDefEqProofs [h1]
 refine Aa (hI _ _ _) ?_
 by_cases h2:SH st 1 r.stages.length
 rotate_left
 ·have e:G5 r n st=0:=by unfold G5;rw[if_neg (fun h=>h2 h.2)]
  simp -implicitDefEqProofs [h2,e]
 obtain⟨m,rfl⟩:∃m:Nat,st=m:=⟨st.toNat,by have:=h2.1;omega⟩
 have hm:m≤r.stages.length:=by have:=h2.2;omega
 have e:G5 r n m=Lr r n m:=by unfold G5;rw[if_pos ⟨h1,h2⟩];simp
 rw[e]
 simp -implicitDefEqProofs [h2]
 refine Ae (fun k s=>∃j at0,j+k=m∧s=⟨[.undef,I n,.undef,.ptr 0 0,.undef,I (Lr r n j),.undef,.undef,I m,I j,.undef],[.var [.sc (.int .i64 r.version),.sl 1 1 r.stages.length (ints r.stages),.sc (.int .i64 at0),.sc (.bool r.off)]]⟩) ?_ (m) _ ⟨0,r.pos,by simp,by simp[Lr]⟩
 intro k s ⟨j,at0,hj,hs⟩
 subst hs
 by_cases hjn:j<m
 ·have hw:IntKind.i64.wrap ((j:Int)+1)=(j+1:Nat):=by rw[Ad (by omega) (by omega)];simp
  simp -implicitDefEqProofs [hjn]
  refine Aa (hC (AkQ r j) n hl) ?_
  by_cases hmx:Lr r n j<countIn (AkQ r j) n
  ·have em:Lr r n (j+1)=countIn (AkQ r j) n:=by simp only[Lr];omega
   simp -implicitDefEqProofs [hmx]
   exact⟨k-1,by omega,j+1,by omega,by rw[em],by simp[hw]⟩
  ·have em:Lr r n (j+1)=Lr r n j:=by simp only[Lr];omega
   simp -implicitDefEqProofs [hmx]
   exact⟨k-1,by omega,j+1,by omega,by rw[em],by simp[hw]⟩
 ·obtain rfl:j=m:=by omega
  simp -implicitDefEqProofs
def Au4 (r:EH):EH:=⟨r.version,r.stages,r.pos,false⟩
def Ra (w:World):Bool:=decide (((Yh w).length:Int)≤G5 (Au4 w.rollout) w.ends.length w.reached)
abbrev JD (R:Rel):Prop:=∀w:World,Ay w≤4194304→R [arg (EF w)] [] (B (Ra w)) []
theorem AoA (D:Dn) (hCp:Sv (D Zx)) (hH:LB (D AjI)) (hM:LJ (D Akm)):JD (Body D Qt):=by
 intro w hsz
 simp -implicitDefEqProofs
 refine Aa (hCp w.rollout (Ro hsz)) ?_
 simp -implicitDefEqProofs
 refine Aa (hH w hsz) ?_
 simp -implicitDefEqProofs
 refine Aa (hM (Au4 w.rollout) _ _ (Ro hsz)) ?_
 simp -implicitDefEqProofs [Ra]
theorem Ap2 (D:Dn) (hH:LB (D Alp)) (hM:LJ (D AiF)):JD (Body D Qv):=by
 intro w hsz
 simp -implicitDefEqProofs
 refine Aa (hH w hsz) ?_
 simp -implicitDefEqProofs
 refine Aa (hM (Au4 w.rollout) _ _ (Ro hsz)) ?_
 simp -implicitDefEqProofs [Ra]
end Go.Eng.T
namespace Go.Eng.T
set_option maxRecDepth 20000
set_option maxHeartbeats 1000000
def UK (p q:Int):Int:=if SH q 1 1000000000000 then(p.tmod q+q).tmod q else 0
abbrev AmP (R:Rel):Prop:=∀p q:Int,R [I p,I q] [] (I (UK p q)) []
theorem Apa (p:Int) {q:Int} (h:1≤q):-q<p.tmod q∧p.tmod q<q:=by
 have h1:=Int.tmod_lt_of_pos p (show 0<q by omega)
 have h2:=Int.lt_tmod_of_pos p (show 0<q by omega)
 omega
theorem AF0 (D:Dn) (hI:SG (D CB)):AmP (Body D Aey):=by
 intro p q
 simp -implicitDefEqProofs
 refine Aa (hI _ _ _) ?_
 by_cases h:SH q 1 1000000000000
 rotate_left
 ·simp -implicitDefEqProofs [h,UK]
 have h0:¬q=0:=by omega
 have hb:=Apa p (q:=q) (by omega)
 have hw:IntKind.i64.wrap (p.tmod q+q)=p.tmod q+q:=Ad (by omega) (by omega)
 have e:UK p q=(p.tmod q+q).tmod q:=by unfold UK;rw[if_pos h]
 simp -implicitDefEqProofs [h,h0,hw,e]
theorem AFS (D:Dn) (hI:SG (D Bz)):AmP (Body D Afj):=by
 intro p q
 simp -implicitDefEqProofs
 refine Aa (hI _ _ _) ?_
 by_cases h:SH q 1 1000000000000
 rotate_left
 ·simp -implicitDefEqProofs [h,UK]
 have h0:¬q=0:=by omega
 have hb:=Apa p (q:=q) (by omega)
 have hw:IntKind.i64.wrap (p.tmod q+q)=p.tmod q+q:=Ad (by omega) (by omega)
 have e:UK p q=(p.tmod q+q).tmod q:=by unfold UK;rw[if_pos h]
 simp -implicitDefEqProofs [h,h0,hw,e]
theorem Ah5 (p:Int) {q:Int} (h:SH q 1 1000000000000):0≤UK p q∧UK p q<q:=by
 unfold UK
 rw[if_pos h]
 have hb:=Apa p (q:=q) (by omega)
 have h1:=Int.tmod_nonneg q (show 0≤p.tmod q+q by omega)
 have h2:=Int.tmod_lt_of_pos (p.tmod q+q) (show 0<q by omega)
 exact⟨h1,h2⟩
def P6 (s v:Int):Int:=(s*1000003+UK v 2147483647+13).tmod 2147483647
def hash (xs:List Int):Int:=xs.foldl P6 11
abbrev WE (R:Rel):Prop:=∀xs:List Int,xs.length≤maxLen→R [.sl 1 1 xs.length (ints xs)] [] (I (hash xs)) []
theorem AwY {s v:Int} (h:0≤s):0≤P6 s v∧P6 s v<2147483647:=by
 have hm:=Ah5 v (q:=2147483647) ⟨by omega,by omega⟩
 unfold P6
 exact⟨Int.tmod_nonneg _ (by omega),Int.tmod_lt_of_pos _ (by omega)⟩
theorem Aor {α:Type} {f:α→Int→α} {xs:List Int} {j:Nat} {a:α} (h:j<xs.length):(xs.take (j+1)).foldl f a=f ((xs.take j).foldl f a) xs[j]:=by
 have e:xs.take (j+1)=xs.take j++ [xs[j]]:=by simp
 rw[e,List.foldl_append];rfl
theorem Aoy:∀(xs:List Int) {a:Int},0≤a→a<2147483647→0≤xs.foldl P6 a∧xs.foldl P6 a<2147483647
 | [],a,h1,h2=>⟨h1,h2⟩
 | x::xs,a,h1,h2=>by
  have:=AwY (s:=a) (v:=x) h1
  exact Aoy xs this.1 this.2
theorem AEu (D:Dn) (hM:AmP (D Aop)):WE (Body D AaI):=by
 intro xs hl
 unfold maxLen at hl
 simp -implicitDefEqProofs
 refine Ae (fun k s=>∃j,j+k=xs.length∧s=⟨[.sl 1 1 xs.length (ints xs),.undef,I ((xs.take j).foldl P6 11),I j,.undef],[]⟩) ?_ (xs.length) _ ⟨0,by simp,by simp⟩
 intro k s ⟨j,hj,hs⟩
 subst hs
 by_cases hjn:j<xs.length
 ·have hw:IntKind.i64.wrap ((j:Int)+1)=(j+1:Nat):=by rw[Ad (by omega) (by omega)];simp
  have hst:=Aor (f:=P6) (a:=(11:Int)) hjn
  have hb:=Aoy (xs.take j) (a:=11) (by omega) (by omega)
  generalize(xs.take j).foldl P6 11=s at hst hb
  have hm:=Ah5 xs[j] (q:=2147483647) ⟨by omega,by omega⟩
  have w1:IntKind.i64.wrap (s*1000003)=s*1000003:=Ad (by omega) (by omega)
  have w2:IntKind.i64.wrap (s*1000003+UK xs[j] 2147483647)=s*1000003+UK xs[j] 2147483647:=Ad (by omega) (by omega)
  have w3:IntKind.i64.wrap (s*1000003+UK xs[j] 2147483647+13)=s*1000003+UK xs[j] 2147483647+13:=Ad (by omega) (by omega)
  simp -implicitDefEqProofs [hjn,w1]
  refine Aa (hM _ _) ?_
  simp -implicitDefEqProofs [w1,w2,w3]
  exact⟨k-1,by omega,j+1,by omega,by rw[hst];rfl,by simp[hw]⟩
 ·have e:xs.take j=xs:=List.take_of_length_le (by omega)
  simp -implicitDefEqProofs [hjn,e,hash]
theorem ADy (D:Dn) (hM:AmP (D AnM)):WE (Body D AaE):=by
 intro xs hl
 unfold maxLen at hl
 simp -implicitDefEqProofs
 refine Ae (fun k s=>∃j,j+k=xs.length∧s=⟨[.undef,.undef,I ((xs.take j).foldl P6 11),.undef,.sl 1 1 xs.length (ints xs),I xs.length,I j,.undef],[]⟩) ?_ (xs.length) _ ⟨0,by simp,by simp⟩
 intro k s ⟨j,hj,hs⟩
 subst hs
 by_cases hjn:j<xs.length
 ·have hw:IntKind.i64.wrap ((j:Int)+1)=(j+1:Nat):=by rw[Ad (by omega) (by omega)];simp
  have hst:=Aor (f:=P6) (a:=(11:Int)) hjn
  have hb:=Aoy (xs.take j) (a:=11) (by omega) (by omega)
  generalize(xs.take j).foldl P6 11=s at hst hb
  have hm:=Ah5 xs[j] (q:=2147483647) ⟨by omega,by omega⟩
  have w1:IntKind.i64.wrap (s*1000003)=s*1000003:=Ad (by omega) (by omega)
  have w2:IntKind.i64.wrap (s*1000003+UK xs[j] 2147483647)=s*1000003+UK xs[j] 2147483647:=Ad (by omega) (by omega)
  have w3:IntKind.i64.wrap (s*1000003+UK xs[j] 2147483647+13)=s*1000003+UK xs[j] 2147483647+13:=Ad (by omega) (by omega)
  simp -implicitDefEqProofs [hjn,w1]
  refine Aa (hM _ _) ?_
  simp -implicitDefEqProofs [w1,w2,w3]
  exact⟨k-1,by omega,j+1,by omega,by rw[hst];rfl,by simp[hw]⟩
 ·have e:xs.take j=xs:=List.take_of_length_le (by omega)
  simp -implicitDefEqProofs [hjn,e,hash]
def keyed (k:Int) (xs:List Int):Int:=hash (k::xs++ [k])
abbrev XV (R:Rel):Prop:=∀(k:Int) (xs:List Int),xs.length≤4194304→R [I k,.sl 1 1 xs.length (ints xs)] [] (I (keyed k xs)) []
theorem N8 (a:Int) (xs:List Int):V.sc (.int .i64 a)::ints xs=ints (a::xs):=rfl
theorem ABe (D:Dn) (hH:WE (D ZR)):XV (Body D PX):=by
 intro k xs hl
 have b1:(1+xs.length)*8≤1099511627776:=by omega
 have b2:(1+xs.length+1)*8≤1099511627776:=by omega
 have hlen:(k::xs++ [k]).length=1+xs.length+1:=by simp;omega
 simp -implicitDefEqProofs [b1,b2]
 have hh:=hH (k::xs++ [k]) (by unfold maxLen;omega)
 rw[hlen]at hh
 simp -implicitDefEqProofs [N8]at hh
 simp -implicitDefEqProofs [N8]
 refine Aa (hh) ?_
 simp -implicitDefEqProofs [keyed]
def pick (seed p n:Int):Int:=if n<1 then 0 else UK (hash [seed,p]) n
abbrev ZM (R:Rel):Prop:=∀seed p n:Int,R [I seed,I p,I n] [] (I (pick seed p n)) []
theorem ADd (D:Dn) (hH:WE (D ZR)) (hM:AmP (D Aop)):ZM (Body D Wv):=by
 intro seed p n
 by_cases h:n<1
 ·simp -implicitDefEqProofs [h,pick]
 simp -implicitDefEqProofs [h]
 refine Aa (hH [seed,p] (by unfold maxLen;simp)) ?_
 simp -implicitDefEqProofs
 refine Aa (hM _ _) ?_
 simp -implicitDefEqProofs [pick,h]
theorem ADL (D:Dn) (hH:WE (D Z7)) (hM:AmP (D AnM)):ZM (Body D VS):=by
 intro seed p n
 by_cases h:n<1
 ·simp -implicitDefEqProofs [h,pick]
 simp -implicitDefEqProofs [h]
 refine Aa (hH [seed,p] (by unfold maxLen;simp)) ?_
 simp -implicitDefEqProofs
 refine Aa (hM _ _) ?_
 simp -implicitDefEqProofs [pick,h]
theorem SX (seed p:Int) {n:Int} (h:SH n 1 1000000000000):0≤pick seed p n∧pick seed p n<n:=by
 unfold pick
 rw[if_neg (by omega)]
 exact Ah5 _ h
def NM (seed:Int):Int:=16*pick seed 0 16+10
abbrev JS (R:Rel):Prop:=∀seed:Int,R [I seed] [] (I (NM seed)) []
theorem Apl (D:Dn) (hP:ZM (D Acf)):JS (Body D PD):=by
 intro seed
 simp -implicitDefEqProofs
 refine Aa (hP _ _ _) ?_
 have hb:=SX seed 0 (n:=16) ⟨by omega,by omega⟩
 have w1:IntKind.i64.wrap (16*pick seed 0 16)=16*pick seed 0 16:=Ad (by omega) (by omega)
 have w2:IntKind.i64.wrap (16*pick seed 0 16+10)=16*pick seed 0 16+10:=Ad (by omega) (by omega)
 simp -implicitDefEqProofs [w1,w2,NM]
theorem Ap6 (D:Dn) (hP:ZM (D Adg)):JS (Body D P5):=by
 intro seed
 simp -implicitDefEqProofs
 refine Aa (hP _ _ _) ?_
 have hb:=SX seed 0 (n:=16) ⟨by omega,by omega⟩
 have w1:IntKind.i64.wrap (16*pick seed 0 16)=16*pick seed 0 16:=Ad (by omega) (by omega)
 have w2:IntKind.i64.wrap (16*pick seed 0 16+10)=16*pick seed 0 16+10:=Ad (by omega) (by omega)
 simp -implicitDefEqProofs [w1,w2,NM]
def Ka (ls:List (List Int)):Bool:=decide (ls.length≤12)&&ls.all fun l=>allIn l 0 255
abbrev KE (R:Rel):Prop:=∀ls:List (List Int),IA ls≤4194304→R [Kh ls] [] (B (Ka ls)) []
theorem Avy (D:Dn) (hB:Yr (D Vw)):KE (Body D K5):=by
 intro ls hl
 have hll:=Rv (xs:=ls)
 simp -implicitDefEqProofs
 refine Ae (fun k s=>∃j,j+k=ls.length∧(ls.take j).all (fun l=>allIn l 0 255)=true∧s=⟨[Kh ls,.undef,I j,.undef,.undef],[]⟩) ?_ (ls.length) _ ⟨0,by simp,by simp,by simp⟩
 intro k s ⟨j,hj,hp,hs⟩
 subst hs
 by_cases hjn:j<ls.length
 ·have hw:IntKind.i64.wrap ((j:Int)+1)=(j+1:Nat):=by rw[Ad (by omega) (by omega)];simp
  have hst:=UI (p:=fun l=>allIn l 0 255) hjn
  rw[hp,Bool.true_and]at hst
  have hra:=Yu hjn
  simp -implicitDefEqProofs [hjn]
  refine Aa (hB _ (by unfold maxLen;omega)) ?_
  by_cases h1:allIn ls[j] 0 255=true
  ·simp -implicitDefEqProofs [h1]
   exact⟨k-1,by omega,j+1,by omega,by simpa using hst.trans h1,by simp[hw]⟩
  ·have e:Ka ls=false:=by unfold Ka;rw[Sz hjn (by simpa using h1)];simp
   simp -implicitDefEqProofs [h1,e]
 ·have e:Ka ls=decide (ls.length≤12):=by unfold Ka;rw[←Yz (j:=j) (by omega),hp];simp
  by_cases h5:ls.length≤12
  ·have h5':(ls.length:Int)≤12:=by omega
   simp -implicitDefEqProofs [hjn,e,h5,h5']
  ·have h5':¬(ls.length:Int)≤12:=by omega
   simp -implicitDefEqProofs [hjn,e,h5,h5']
abbrev YI (R:Rel):Prop:=∀l:List Int,l.length≤maxLen→R [.sl 1 1 l.length (ints l)] [] (B (!allIn l 0 255)) []
theorem AtF (D:Dn) (hN:Jv (D Kb)):YI (Body D Jq):=by
 intro l hl
 simp -implicitDefEqProofs
 refine Aa (hN _ _ _ hl) ?_
 simp -implicitDefEqProofs
theorem Auz (D:Dn) (h1':YI (D O0)) (hC:G7 D (D Ga)):KE (Body D Ld):=by
 intro ls hl
 have hll:=Rv (xs:=ls)
 by_cases h5:ls.length≤12
 rotate_left
 ·have h5':¬(ls.length:Int)≤12:=by omega
  simp -implicitDefEqProofs [h5',h5,Ka]
 have h5':(ls.length:Int)≤12:=by omega
 simp -implicitDefEqProofs [h5']
 refine Aa (hC ls O0 [] (fun l=> !allIn l 0 255) (by unfold maxLen;omega) ER (fun j hj=>h1' ls[j] (by have:=Yu hj;unfold maxLen;omega))) ?_
 rw[Ah0]
 generalize hq:(ls.all fun l=>allIn l 0 255)=q
 simp -implicitDefEqProofs [Ka,h5,hq]
def QW (x:Int) (b:List Int):Int:=hash (x::(b.length:Int)::b)
def I7 (ls:List (List Int)):Int:=if Ka ls=true then ls.foldl QW 1 else 0
abbrev JI (R:Rel):Prop:=∀ls:List (List Int),IA ls≤4194304→R [Kh ls] [] (I (I7 ls)) []
theorem Ajp {α β:Type} {f:α→β→α} {xs:List β} {j:Nat} {a:α} (h:j<xs.length):(xs.take (j+1)).foldl f a=f ((xs.take j).foldl f a) xs[j]:=by
 have e:xs.take (j+1)=xs.take j++ [xs[j]]:=by simp
 rw[e,List.foldl_append];rfl
theorem Aqa (D:Dn) (hT:KE (D R9)) (hH:WE (D ZR)):JI (Body D JU):=by
 intro ls hl
 have hll:=Rv (xs:=ls)
 simp -implicitDefEqProofs
 refine Aa (hT ls hl) ?_
 by_cases h1:Ka ls=true
 rotate_left
 ·simp -implicitDefEqProofs [h1,I7]
 simp -implicitDefEqProofs [h1]
 refine Ae (fun k s=>∃j o0 o1,j+k=ls.length∧s=⟨[Kh ls,.undef,I ((ls.take j).foldl QW 1),I j,.undef,.undef],[o0,o1]⟩) ?_ (ls.length) _ ⟨0,.free,.free,by simp,by simp⟩
 intro k s ⟨j,o0,o1,hj,hs⟩
 subst hs
 by_cases hjn:j<ls.length
 ·have hw:IntKind.i64.wrap ((j:Int)+1)=(j+1:Nat):=by rw[Ad (by omega) (by omega)];simp
  have hst:=Ajp (f:=QW) (a:=(1:Int)) hjn
  have hra:=Yu hjn
  have b1:(2+ls[j].length)*8≤1099511627776:=by omega
  generalize(ls.take j).foldl QW 1=x at hst
  have hh:=hH (x::(ls[j].length:Int)::ls[j]) (by unfold maxLen;simp;omega)
  have hlen:(x::(ls[j].length:Int)::ls[j]).length=2+ls[j].length:=by simp;omega
  rw[hlen]at hh
  simp only[←N8]at hh
  simp -implicitDefEqProofs [hjn,b1]
  refine Aa (hh) ?_
  simp -implicitDefEqProofs
  exact⟨k-1,by omega,j+1,by omega,by rw[hst];rfl,by simp[hw]⟩
 ·have e:ls.take j=ls:=List.take_of_length_le (by omega)
  have e2:I7 ls=ls.foldl QW 1:=by unfold I7;rw[if_pos h1]
  simp -implicitDefEqProofs [hjn,e,e2]
theorem Ap8 (D:Dn) (hT:KE (D Rp)) (hH:WE (D Z7)):JI (Body D JH):=by
 intro ls hl
 have hll:=Rv (xs:=ls)
 simp -implicitDefEqProofs
 refine Aa (hT ls hl) ?_
 by_cases h1:Ka ls=true
 rotate_left
 ·simp -implicitDefEqProofs [h1,I7]
 simp -implicitDefEqProofs [h1]
 refine Ae (fun k s=>∃j o0 o1,j+k=ls.length∧s=⟨[.undef,.undef,I ((ls.take j).foldl QW 1),.undef,.undef,Kh ls,I ls.length,I j,.undef],[o0,o1]⟩) ?_ (ls.length) _ ⟨0,.free,.free,by simp,by simp⟩
 intro k s ⟨j,o0,o1,hj,hs⟩
 subst hs
 by_cases hjn:j<ls.length
 ·have hw:IntKind.i64.wrap ((j:Int)+1)=(j+1:Nat):=by rw[Ad (by omega) (by omega)];simp
  have hst:=Ajp (f:=QW) (a:=(1:Int)) hjn
  have hra:=Yu hjn
  have b1:(2+ls[j].length)*8≤1099511627776:=by omega
  generalize(ls.take j).foldl QW 1=x at hst
  have hh:=hH (x::(ls[j].length:Int)::ls[j]) (by unfold maxLen;simp;omega)
  have hlen:(x::(ls[j].length:Int)::ls[j]).length=2+ls[j].length:=by simp;omega
  rw[hlen]at hh
  simp only[←N8]at hh
  simp -implicitDefEqProofs [hjn,b1]
  refine Aa (hh) ?_
  simp -implicitDefEqProofs
  exact⟨k-1,by omega,j+1,by omega,by rw[hst];rfl,by simp[hw]⟩
 ·have e:ls.take j=ls:=List.take_of_length_le (by omega)
  have e2:I7 ls=ls.foldl QW 1:=by unfold I7;rw[if_pos h1]
  simp -implicitDefEqProofs [hjn,e,e2]
def Dq (k:Int) (ls:List (List Int)) (side:Int):Int:=if Mk k&&(Ka ls&&decide (SH side 0 1))then keyed k [side,I7 ls]else 0
abbrev QS (R:Rel):Prop:=∀(k:Int) (ls:List (List Int)) (side:Int),IA ls≤4194304→R [I k,Kh ls,I side] [] (I (Dq k ls side)) []
theorem Aw2 (D:Dn) (hV:I6 (D UR)) (hT:KE (D R9)) (hI:SG (D CB)) (hH:JI (D Yg)) (hK:XV (D Af8)):QS (Body D Sd):=by
 intro k ls side hl
 simp -implicitDefEqProofs
 refine Aa (hV k) ?_
 by_cases h1:Mk k=true
 rotate_left
 ·simp -implicitDefEqProofs [h1,Dq]
 simp -implicitDefEqProofs [h1]
 refine Aa (hT ls hl) ?_
 by_cases h2:Ka ls=true
 rotate_left
 ·simp -implicitDefEqProofs [h2,Dq]
 simp -implicitDefEqProofs [h2]
 refine Aa (hI _ _ _) ?_
 by_cases h3:SH side 0 1
 rotate_left
 ·simp -implicitDefEqProofs [h3,Dq]
 simp -implicitDefEqProofs [h3]
 refine Aa (hH ls hl) ?_
 simp -implicitDefEqProofs
 refine Aa (hK k [side,I7 ls] (by simp)) ?_
 simp -implicitDefEqProofs [Dq,h1,h2,h3]
theorem Ayz (D:Dn) (hV:I6 (D UB)) (hT:KE (D Rp)) (hI:SG (D Bz)) (hH:JI (D XM)) (hK:XV (D Af6)):QS (Body D Rk):=by
 intro k ls side hl
 simp -implicitDefEqProofs
 refine Aa (hV k) ?_
 by_cases h1:Mk k=true
 rotate_left
 ·simp -implicitDefEqProofs [h1,Dq]
 simp -implicitDefEqProofs [h1]
 refine Aa (hT ls hl) ?_
 by_cases h2:Ka ls=true
 rotate_left
 ·simp -implicitDefEqProofs [h2,Dq]
 simp -implicitDefEqProofs [h2]
 refine Aa (hI _ _ _) ?_
 by_cases h3:SH side 0 1
 rotate_left
 ·simp -implicitDefEqProofs [h3,Dq]
 simp -implicitDefEqProofs [h3]
 refine Aa (hH ls hl) ?_
 simp -implicitDefEqProofs
 refine Aa (hK k [side,I7 ls] (by simp)) ?_
 simp -implicitDefEqProofs [Dq,h1,h2,h3]
def Q9 (k:Int) (ls:List (List Int)) (side f:Int):Bool:= !decide (f=0)&&decide (f=Dq k ls side)
abbrev Wz (R:Rel):Prop:=∀(k:Int) (ls:List (List Int)) (side f:Int),IA ls≤4194304→R [I k,Kh ls,I side,I f] [] (B (Q9 k ls side f)) []
theorem Aqu (D:Dn) (hF:QS (D XZ)):Wz (Body D Qc):=by
 intro k ls side f hl
 by_cases h0:f=0
 ·simp -implicitDefEqProofs [h0,Q9]
 simp -implicitDefEqProofs [h0]
 refine Aa (hF k ls side hl) ?_
 simp -implicitDefEqProofs [Q9,h0,WT]
end Go.Eng.T
namespace Go.Eng.T
set_option maxRecDepth 20000
set_option maxHeartbeats 1000000
theorem YB {l:List Ext} (h:EC l=true):l.length≤6:=by
 unfold EC at h
 simp only[Bool.and_eq_true,decide_eq_true_eq]at h
 exact h.2
theorem ADQ {l:List Ext} (h:EC l=true) {j:Nat} (hj:j<l.length):VU l j=true:=by
 unfold EC at h
 simp only[Bool.and_eq_true]at h
 exact Ayu.1 h.1 j hj
theorem Abb {l:List Ext} (h:EC l=true) {j:Nat} (hj:j<l.length):l[j].body.length≤4:=by
 have:=ADQ h hj
 rw[Afk hj]at this
 unfold Xd at this
 simp only[Bool.and_eq_true,decide_eq_true_eq]at this
 exact this.1.2.1
def AHa (x:Ext):List Int:=x.tag::(x.body.length:Int)::x.body
def Nk (l:List Ext) (j:Nat):List Int:=(l.length:Int)::(l.take j).flatMap AHa
theorem Aar {l:List Ext} {j:Nat} (h:j<l.length):Nk l (j+1)=Nk l j++([l[j].tag,(l[j].body.length:Int)]++l[j].body):=by
 have e:l.take (j+1)=l.take j++ [l[j]]:=by simp
 unfold Nk
 rw[e,List.flatMap_append]
 simp[AHa]
theorem YM {l:List Ext} (h:EC l=true):∀j,j≤l.length→(Nk l j).length≤1+6*j
 | 0,_=>by simp[Nk]
 | j+1,hj=>by
  have ih:=YM h j (by omega)
  have hb:=Abb h (j:=j) (by omega)
  rw[Aar (by omega)]
  simp only[List.length_append,List.length_cons,List.length_nil]
  omega
def EM (l:List Ext):List Int×Bool:=if EC l=true then(Nk l l.length,true)else([],false)
abbrev Gm (R:Rel):Prop:=∀l:List Ext,Ub l→R [.sl 1 2 l.length (l.flatMap Br)] [] (.tup [.sl 0 1 (EM l).1.length (ints (EM l).1),B (EM l).2]) []
theorem AmO (D:Dn) (hA:FV (D KC)):Gm (Body D Oj):=by
 intro l hl
 have hll:=hl.1
 simp -implicitDefEqProofs
 refine Aa (hA l hl) ?_
 by_cases h1:EC l=true
 rotate_left
 ·have e:EM l=([],false):=by unfold EM;rw[if_neg h1]
  simp -implicitDefEqProofs [h1,e]
 simp -implicitDefEqProofs [h1]
 refine Ae (fun k s=>∃j o2 o3 o4,j+k=l.length∧s=⟨[.sl 1 2 l.length (l.flatMap Br),.undef,.undef,.arr 5,I j,.undef,.undef],[.free,.free,o2,o3,o4,.arr 1 0 (Nk l j).length (ints (Nk l j))]⟩) ?_ (l.length) _ ⟨0,.free,.free,.free,by simp,by simp[Nk,ints]⟩
 intro k s ⟨j,o2,o3,o4,hj,hs⟩
 subst hs
 by_cases hjn:j<l.length
 ·have hw:IntKind.i64.wrap ((j:Int)+1)=(j+1:Nat):=by rw[Ad (by omega) (by omega)];simp
  have hst:=Aar hjn
  have hle:=YM h1 j (by omega)
  have h6:=YB h1
  have hb4:=Abb h1 hjn
  have b1:((Nk l j).length+2)*8≤1099511627776:=by omega
  have b2:((Nk l j).length+2+l[j].body.length)*8≤1099511627776:=by omega
  simp -implicitDefEqProofs [hjn,b1,b2]
  exact⟨k-1,by omega,j+1,by omega,by simp[hw],by rw[hst];simp;omega,by rw[hst];simp[ints]⟩
 ·obtain rfl:j=l.length:=by omega
  have e:EM l=(Nk l l.length,true):=by unfold EM;rw[if_pos h1]
  simp -implicitDefEqProofs [e]
theorem Anm (D:Dn) (hA:FV (D KR)):Gm (Body D NP):=by
 intro l hl
 have hll:=hl.1
 simp -implicitDefEqProofs
 refine Aa (hA l hl) ?_
 by_cases h1:EC l=true
 rotate_left
 ·have e:EM l=([],false):=by unfold EM;rw[if_neg h1]
  simp -implicitDefEqProofs [h1,e]
 simp -implicitDefEqProofs [h1]
 refine Ae (fun k s=>∃j o1 o2 o3 o4,j+k=l.length∧s=⟨[.undef,.undef,.undef,.arr 5,.undef,.undef,.sl 1 2 l.length (l.flatMap Br),I l.length,I j,.undef],[.free,o1,o2,o3,o4,.arr 1 0 (Nk l j).length (ints (Nk l j))]⟩) ?_ (l.length) _ ⟨0,.free,.free,.free,.free,by simp,by simp[Nk,ints]⟩
 intro k s ⟨j,o1,o2,o3,o4,hj,hs⟩
 subst hs
 by_cases hjn:j<l.length
 ·have hw:IntKind.i64.wrap ((j:Int)+1)=(j+1:Nat):=by rw[Ad (by omega) (by omega)];simp
  have hst:=Aar hjn
  have hle:=YM h1 j (by omega)
  have h6:=YB h1
  have hb4:=Abb h1 hjn
  have b1:((Nk l j).length+2)*8≤1099511627776:=by omega
  have b2:((Nk l j).length+2+l[j].body.length)*8≤1099511627776:=by omega
  simp -implicitDefEqProofs [hjn,b1,b2]
  exact⟨k-1,by omega,j+1,by omega,by simp[hw],by rw[hst];simp;omega,by rw[hst];simp[ints]⟩
 ·obtain rfl:j=l.length:=by omega
  have e:EM l=(Nk l l.length,true):=by unfold EM;rw[if_pos h1]
  simp -implicitDefEqProofs [e]
theorem LC (l:List Ext):(EM l).1.length≤37:=by
 unfold EM
 split
 ·rename_i h
  have:=YM h l.length (Nat.le_refl _)
  have:=YB h
  dsimp only;omega
 ·simp
def A8 (h:Hello):List Int:=if CP h=true then((h.versions.length:Int)::h.versions)++(EM h.exts).1 else []
abbrev Iq (R:Rel):Prop:=∀h:Hello,hB h→R [arg (CU h)] [] (.sl 0 1 (A8 h).length (ints (A8 h))) []
theorem AyC {h:Hello} (hh:CP h=true):A9 h.versions=true:=by unfold CP at hh;simp only[Bool.and_eq_true]at hh;exact hh.1
theorem Anp (D:Dn) (hI:Eb (D Gi)) (hE:Gm (D UO)):Iq (Body D Nw):=by
 intro h hh
 have hv:=hh.1
 simp -implicitDefEqProofs
 refine Aa (hI h hh) ?_
 by_cases h1:CP h=true
 rotate_left
 ·simp -implicitDefEqProofs [h1,A8]
 have hl:=LC h.exts
 have e:A8 h=((h.versions.length:Int)::h.versions)++(EM h.exts).1:=by unfold A8;rw[if_pos h1]
 rw[e]
 simp -implicitDefEqProofs [h1]
 refine Aa (hE h.exts hh.2) ?_
 generalize(EM h.exts).1=r at hl
 have b1:(1+h.versions.length)*8≤1099511627776:=by omega
 have b2:(1+h.versions.length+r.length)*8≤1099511627776:=by omega
 have el:h.versions.length+r.length+1=1+h.versions.length+r.length:=by omega
 simp -implicitDefEqProofs [b1,b2,N8,Ake,el]
def Jp (a:RY):Bool:=decide (InV a.version 1 9)&&EC a.exts
def AA (a:RY):List Int:=if Jp a=true then a.version::(EM a.exts).1 else []
abbrev I9 (R:Rel):Prop:=∀a:RY,Ub a.exts→R [arg (Yw a)] [] (B (Jp a)) []
theorem Art (D:Dn) (hI:SG (D CB)) (hE:FV (D KC)):I9 (Body D RA):=by
 intro a ha
 simp -implicitDefEqProofs
 refine Aa (hI _ _ _) ?_
 by_cases h1:InV a.version 1 9
 rotate_left
 ·simp -implicitDefEqProofs [h1,Jp]
 simp -implicitDefEqProofs [h1]
 refine Aa (hE _ ha) ?_
 simp -implicitDefEqProofs [Jp,h1]
theorem AsV (D:Dn) (hI:SG (D Bz)) (hE:FV (D KR)):I9 (Body D R8):=by
 intro a ha
 simp -implicitDefEqProofs
 refine Aa (hI _ _ _) ?_
 by_cases h1:InV a.version 1 9
 rotate_left
 ·simp -implicitDefEqProofs [h1,Jp]
 simp -implicitDefEqProofs [h1]
 refine Aa (hE _ ha) ?_
 simp -implicitDefEqProofs [Jp,h1]
abbrev GV (R:Rel):Prop:=∀a:RY,Ub a.exts→R [arg (Yw a)] [] (.sl 0 1 (AA a).length (ints (AA a))) []
theorem Ahv (a:RY):(AA a).length≤38:=by
 unfold AA
 have:=LC a.exts
 split
 ·simp only[List.length_cons];omega
 ·simp
theorem AkJ (D:Dn) (hI:I9 (D XG)) (hE:Gm (D UO)):GV (Body D ML):=by
 intro a ha
 simp -implicitDefEqProofs
 refine Aa (hI a ha) ?_
 by_cases h1:Jp a=true
 rotate_left
 ·have e:AA a=[]:=by unfold AA;rw[if_neg h1]
  simp -implicitDefEqProofs [h1,e]
 have hl:=LC a.exts
 have e:AA a=a.version::(EM a.exts).1:=by unfold AA;rw[if_pos h1]
 rw[e]
 simp -implicitDefEqProofs [h1]
 refine Aa (hE a.exts ha) ?_
 generalize(EM a.exts).1=r at hl
 have b2:(1+r.length)*8≤1099511627776:=by omega
 have el:r.length+1=1+r.length:=by omega
 simp -implicitDefEqProofs [b2,N8,el]
theorem Ajf (D:Dn) (hI:I9 (D Xx)) (hE:Gm (D UM)):GV (Body D Na):=by
 intro a ha
 simp -implicitDefEqProofs
 refine Aa (hI a ha) ?_
 by_cases h1:Jp a=true
 rotate_left
 ·have e:AA a=[]:=by unfold AA;rw[if_neg h1]
  simp -implicitDefEqProofs [h1,e]
 have hl:=LC a.exts
 have e:AA a=a.version::(EM a.exts).1:=by unfold AA;rw[if_pos h1]
 rw[e]
 simp -implicitDefEqProofs [h1]
 refine Aa (hE a.exts ha) ?_
 generalize(EM a.exts).1=r at hl
 have b2:(1+r.length)*8≤1099511627776:=by omega
 have el:r.length+1=1+r.length:=by omega
 simp -implicitDefEqProofs [b2,N8,el]
def Ano (h:Hello) (x:Ext):Bool:=decide (x.tag∈Aq h.exts)&& !Am x.tag
def Ez (h:Hello) (a:RY):Bool:=CP h&&(Jp a&&(decide (a.version∈h.versions)&&a.exts.all (Ano h)))
abbrev JV (R:Rel):Prop:=∀(h:Hello) (a:RY),hB h→Ub a.exts→R [arg (CU h),arg (Yw a)] [] (B (Ez h a)) []
theorem AAj {α:Type} {p:α→Bool} {xs:List α} {i:Int} (h:0≤i):(Gs p xs i<0)=¬(xs.any p=true):=by
 have:=QN (p:=p) (xs:=xs) h
 rw[←this]
 exact propext ⟨fun h=>by omega,fun h=>by omega⟩
theorem AC6 (l:List Ext) (t:Int):l.any (GR t)=decide (t∈Aq l):=by
 rw[Bool.eq_iff_iff]
 simp only[List.any_eq_true,decide_eq_true_eq,Aq,List.mem_map,GR]
theorem LW (l:List Ext) (t:Int):(Js l t<0)=¬(t∈Aq l):=by
 unfold Js
 rw[AAj (by omega),AC6]
 simp
theorem Aqr (D:Dn) (hX:Qn (D Tg)) (hR:EW (D J8)) (hI:Eb (D Gi)) (hA:I9 (D XG)) (hH:R6 (D Jl)):JV (Body D Pn):=by
 intro h a hh ha
 have hal:=ha.1
 have hxl:=hh.2.1
 have hvl:=hh.1
 simp -implicitDefEqProofs
 refine Ae (fun k s=>∃j,j+k=a.exts.length∧(a.exts.take j).all (Ano h)=true∧s=⟨[.undef,.undef,.ptr 0 0,.ptr 1 0,.undef,I j,.undef,.undef],[.var ((CU h).map (AZ 1)),.var ((Yw a).map (AZ 1))]⟩) ?_ (a.exts.length) _ ⟨0,by simp,by simp,by simp⟩
 intro k s ⟨j,hj,hp,hs⟩
 subst hs
 by_cases hjn:j<a.exts.length
 ·have hw:IntKind.i64.wrap ((j:Int)+1)=(j+1:Nat):=by rw[Ad (by omega) (by omega)];simp
  have hst:=UI (p:=Ano h) hjn
  rw[hp,Bool.true_and]at hst
  simp -implicitDefEqProofs [hjn]
  refine Aa (hX h.exts _ (by unfold maxLen;omega)) ?_
  by_cases h1:a.exts[j].tag∈Aq h.exts
  rotate_left
  ·have e:Ez h a=false:=by unfold Ez;rw[Sz hjn (by simp[Ano,h1])];simp
   have h1':Js h.exts a.exts[j].tag<0:=by rw[LW];exact h1
   simp -implicitDefEqProofs [h1',e]
  have h1':¬Js h.exts a.exts[j].tag<0:=by rw[LW];simpa using h1
  simp -implicitDefEqProofs [h1',hjn]
  refine Aa (hR _) ?_
  by_cases h2:Am a.exts[j].tag=true
  ·have e:Ez h a=false:=by unfold Ez;rw[Sz hjn (by simp[Ano,h2])];simp
   simp -implicitDefEqProofs [h2,e]
  ·simp -implicitDefEqProofs [h2]
   exact⟨k-1,by omega,j+1,by omega,by simpa using hst.trans (show Ano h a.exts[j]=true by simp[Ano,h1,h2]),by simp[hw]⟩
 ·have e:a.exts.all (Ano h)=true:=by rw[←Yz (j:=j) (by omega),hp]
  simp -implicitDefEqProofs [hjn]
  refine Aa (hI h hh) ?_
  by_cases g1:CP h=true
  rotate_left
  ·simp -implicitDefEqProofs [g1,Ez]
  simp -implicitDefEqProofs [g1]
  refine Aa (hA a ha) ?_
  by_cases g2:Jp a=true
  rotate_left
  ·simp -implicitDefEqProofs [g2,Ez]
  simp -implicitDefEqProofs [g2]
  refine Aa (hH _ _ (by unfold maxLen;omega)) ?_
  have e2:Ez h a=decide (a.version∈h.versions):=by unfold Ez;rw[e,g1,g2];simp
  simp -implicitDefEqProofs [e2]
abbrev VH (R:Rel):Prop:=∀l:List Ext,l.length≤4194304→R [.sl 1 2 l.length (l.flatMap Br)] [] (B ((Aq l).any Am)) []
theorem AoQ (D:Dn) (hT:KV (D QR)) (hH:F9 (D Oe)):VH (Body D Pv):=by
 intro l hl
 simp -implicitDefEqProofs
 refine Aa (hT l hl) ?_
 simp -implicitDefEqProofs
 refine Aa (hH (Aq l) (by rw[Nb];unfold maxLen;omega)) ?_
 generalize(Aq l).any Am=q
 simp -implicitDefEqProofs
theorem AEh (h:Hello) (a:RY):a.exts.all (Ano h)=(decide (leftOf (Aq a.exts) (Aq h.exts)=[])&& !(Aq a.exts).any Am):=by
 have h1:decide (leftOf (Aq a.exts) (Aq h.exts)=[])=a.exts.all fun x=>decide (x.tag∈Aq h.exts):=by
  rw[Bool.eq_iff_iff,decide_eq_true_eq,List.all_eq_true]
  unfold leftOf
  rw[List.filter_eq_nil_iff]
  constructor
  ·intro hp x hx
   have:=hp x.tag (List.mem_map.2 ⟨x,hx,rfl⟩)
   simpa using this
  ·intro hp v hv
   obtain⟨x,hx,rfl⟩:=List.mem_map.1 hv
   simpa using hp x hx
 have h2:(!(Aq a.exts).any Am)=a.exts.all fun x=> !Am x.tag:=by
  unfold Aq
  rw[List.any_map,List.all_eq_not_any_not]
  simp[Function.comp_def]
 rw[h1,h2]
 generalize a.exts=l
 induction l with
 | nil=>rfl
 | cons x r ih=>
  simp only[List.all_cons,ih,Ano]
  generalize decide (x.tag∈Aq h.exts)=p1
  generalize Am x.tag=p2
  cases p1<;>cases p2<;>simp
theorem Apk (D:Dn) (hI:Eb (D Hl)) (hA:I9 (D Xx)) (hH:R6 (D Bn)) (hT:KV (D QR)) (hL:WC (D OE)) (hG:VH (D Agu)):JV (Body D Pm):=by
 intro h a hh ha
 have hal:=ha.1
 have hxl:=hh.2.1
 have hvl:=hh.1
 simp -implicitDefEqProofs
 refine Aa (hI h hh) ?_
 by_cases g1:CP h=true
 rotate_left
 ·simp -implicitDefEqProofs [g1,Ez]
 simp -implicitDefEqProofs [g1]
 refine Aa (hA a ha) ?_
 by_cases g2:Jp a=true
 rotate_left
 ·simp -implicitDefEqProofs [g2,Ez]
 simp -implicitDefEqProofs [g2]
 refine Aa (hH _ _ (by unfold maxLen;omega)) ?_
 by_cases g3:a.version∈h.versions
 rotate_left
 ·simp -implicitDefEqProofs [g3,Ez]
 have e2:Ez h a=(decide (leftOf (Aq a.exts) (Aq h.exts)=[])&& !(Aq a.exts).any Am):=by unfold Ez;rw[AEh,g1,g2];simp[g3]
 rw[e2]
 simp -implicitDefEqProofs [g3]
 refine Aa (hT a.exts hal) ?_
 simp -implicitDefEqProofs
 refine Aa (hT h.exts hxl) ?_
 simp -implicitDefEqProofs
 refine Aa (hL (Aq a.exts) (Aq h.exts) (by rw[Nb];exact hal) (by rw[Nb];exact hxl)) ?_
 by_cases g4:leftOf (Aq a.exts) (Aq h.exts)=[]
 rotate_left
 ·simp -implicitDefEqProofs [g4,WT]
 simp -implicitDefEqProofs [g4,WT]
 refine Aa (hG a.exts hal) ?_
 generalize(Aq a.exts).any Am=q
 simp -implicitDefEqProofs
def Bf (vs tags:List Int) (h:Hello):RY×Bool:=if CP h&& !decide (BJ vs h.versions=0)then(⟨BJ vs h.versions,AaR (KT h.exts tags)⟩,true)else(⟨0,[]⟩,false)
abbrev SY (R:Rel):Prop:=∀(vs tags:List Int) (h:Hello),vs.length≤4194304→tags.length≤4194304→hB h→R [.sl 1 1 vs.length (ints vs),.sl 1 1 tags.length (ints tags),arg (CU h)] [] (.tup [.agg (Yw (Bf vs tags h).1),B (Bf vs tags h).2]) []
theorem AxG (D:Dn) (hB':EX (D NC)) (hI:Eb (D Gi)) (hK:L8 (D ZO)) (hS:GX (D Ac3)):SY (Body D Ls):=by
 intro vs tags h hv ht hh
 simp -implicitDefEqProofs
 refine Aa (hB' vs h.versions hv hh.1) ?_
 simp -implicitDefEqProofs
 refine Aa (hI h hh) ?_
 by_cases h1:CP h=true
 rotate_left
 ·simp -implicitDefEqProofs [h1,Bf]
 by_cases h2:BJ vs h.versions=0
 ·simp -implicitDefEqProofs [h1,h2,Bf]
 have e:Bf vs tags h=(⟨BJ vs h.versions,AaR (KT h.exts tags)⟩,true):=by unfold Bf;rw[if_pos (by simp[h1,h2])]
 simp -implicitDefEqProofs [h1,h2]
 refine Aa (hK h.exts tags hh.2 (by unfold maxLen;omega)) ?_
 simp -implicitDefEqProofs
 refine Aa (hS (KT h.exts tags) (UN hh.2 _)) ?_
 simp -implicitDefEqProofs [e]
theorem Ayp (D:Dn) (hB':EX (D Ou)) (hI:Eb (D Hl)) (hK:L8 (D Anu)) (hS:GX (D Ab6)):SY (Body D KZ):=by
 intro vs tags h hv ht hh
 simp -implicitDefEqProofs
 refine Aa (hB' vs h.versions hv hh.1) ?_
 simp -implicitDefEqProofs
 refine Aa (hI h hh) ?_
 by_cases h1:CP h=true
 rotate_left
 ·simp -implicitDefEqProofs [h1,Bf]
 by_cases h2:BJ vs h.versions=0
 ·simp -implicitDefEqProofs [h1,h2,Bf]
 have e:Bf vs tags h=(⟨BJ vs h.versions,AaR (KT h.exts tags)⟩,true):=by unfold Bf;rw[if_pos (by simp[h1,h2])]
 simp -implicitDefEqProofs [h1,h2]
 refine Aa (hK h.exts tags hh.2 (by unfold maxLen;omega)) ?_
 simp -implicitDefEqProofs
 refine Aa (hS (KT h.exts tags) (UN hh.2 _)) ?_
 simp -implicitDefEqProofs [e]
end Go.Eng.T
namespace Go.Eng.T
end Go.Eng.T
namespace Go.Eng.T
open Go.Eng.X
def Db:Nat→Bc
 |0=>R 0 [x 0 (s 0),x 1 (s 1),a 2 [c,o,N 1]] [(6,0),(7,1),(8,2)] [0,1]
 |1=>R 1 [m (s 2),m (s 3),P 2 (s 7),C 343 [r (l 0),r (l 1),r (l 2)] [3],m (l 3),X (l 4) 0,X (l 4) 1,a 4 [o,N 2],W 2 (l 7) (l 5),m (l 6)] [(9,7),(10,9)] [2,3]
 |2=>R 2 [m (s 10),n (l 0)] [(13,1)] [10]
 |3=>R 3 [b [c,o,N 1] [],W 3 (s 8) (l 0)] [] [4,5,6,7,9]
 |4=>R 4 [P 2 (s 9),a 5 [o,N 2],W 2 (l 1) (l 0)] [(11,1)] []
 |5=>R 5 [m (s 5),e (l 0),m (i 0)] [(14,1),(15,2)] [5]
 |6=>R 6 [y .lss (s 15) (s 14)] [(16,0)] [14,15]
 |7=>T 10 [D (m (s 4)) [] [],D (P 2 (s 7)) [1] [],D (C 345 [r (l 1)] [6]) [6] [6],D (P 2 (s 9)) [4] [],D (C 346 [r (l 3)] [7]) [3,7] [7],D (M 8 1 2 [l 2,l 4]) [6,7,8] [6,7,8],D (C 347 [r (l 0),r (l 5),r (i 1)] []) [8] [],D (m (l 6)) [] []] [(12,7)] [7,9]
 |8=>T 11 [D (P 2 (s 6)) [0] [],D (P 2 (s 11)) [5] [],D (C 348 [r (l 0),r (l 1)] []) [3] [],D (n (l 2)) [] [],D (m (l 3)) [] [],H 4 (m (s 4)) [] [],H 4 (P 2 (s 6)) [0] [],H 4 (C 345 [r (l 6)] [9]) [9] [9],H 4 (P 2 (s 11)) [5] [],H 4 (C 346 [r (l 8)] [10]) [3,10] [10],H 4 (M 11 1 2 [l 7,l 9]) [9,10,11] [9,10,11],H 4 (m (s 12)) [] [],H 4 (C 349 [r (l 5),r (l 10),r (i 1),r (l 11)] []) [11] [],H 4 (n (l 12)) [] [],D (k (l 4) t (l 13)) [] []] [(17,14)] [4,6,12]
 |9=>R 12 [b [c,o,N 1] [],W 3 (s 8) (l 0)] [] [11]
 |_=>T 13 [D (F (s 11) 0) [] [],D (L (l 0)) [5] [],D (F (s 11) 1) [] [],D (L (l 2)) [5] [],D (C 317 [r (l 3)] [12]) [3,12] [12],D (b [c,o,N 1] [(0,1,t),(1,1,l 1),(2,1,l 4)]) [] [],D (W 3 (s 8) (l 5)) [2] [2]] [] [11]
def Wd:Bh:=⟨18,13,[0,1,2,3,4,5],0,false,[],j (d (Db 0)) (j (d (Db 1)) (j (j (d (Db 2)) (h 13 (j (d (Db 3)) (.ret)) (.skip))) (j (d (Db 4)) (j (j (d (Db 5)) (.block 0 (.loop (j (d (Db 6)) (j (h 16 (.skip) (.exit 0)) (j (.block 1 (j (.stuck) (.stuck))) (.stuck))))))) (j (d (Db 7)) (j (j (d (Db 8)) (h 17 (j (d (Db 9)) (.ret)) (.skip))) (j (d (Db 10)) (.ret)))))))),[.cell 8 (some 3)]⟩
def Akt:List Tmp:=[0,1,2,3,4,5,6,7,12,13,14,15,18,27,31,32,33,61]
def BB:Nat→Bc
 |0=>R 0 [m (z 2)] [] [2]
 |1=>R 1 [m (s 1),C 310 [r (l 0)] [],m (l 1)] [(3,2)] []
 |2=>R 2 [m (s 0),C 311 [r (l 0)] [0],m (l 1)] [(4,2)] []
 |3=>R 3 [m (s 0),C 312 [r (l 0)] [],n (l 1),m (l 2),G 3 (m (s 0)),G 3 (e (l 4)),G 3 (y .geq (l 5) (i 6)),k (l 3) t (l 6),m (l 7),G 8 (m (s 0)),G 8 (m (s 3)),G 8 (C 309 [r (l 9),r (l 10)] []),G 8 (y .geq (l 11) (i 0)),k (l 8) t (l 12)] [(8,13)] []
 |4=>R 4 [m (s 4),m (l 0)] [(2,1)] [0,1,3,4]
 |5=>Q 5 [m (s 3),b [o,N 1] [(0,1,l 0)],a 1 [o,N 1],W 2 (l 2) (l 1)] [(5,2)] [3] [] [.ownc 1 1 9]
 |6=>R 6 [m (s 1),C 313 [r (l 0),r (i 2),r (i 3)] [],m (l 1)] [(6,2)] []
 |7=>R 7 [m (s 6),y .gtr (l 0) (i 0)] [(9,1)] []
 |8=>Y 9 [D (F (s 5) 1) [] [],D (L (l 0)) [1] [],D (m (s 1)) [] [],D (C 313 [r (l 2),r (i 3),r (i 256)] []) [] [],D (M 2 1 1 [l 3]) [2] [2],D (q 3 1 8 (l 1) (l 4)) [2,3,9] [3,9],D (F (s 5) 1) [] [],D (W 1 (l 6) (l 5)) [1] [1]] [] [] [2,3] [w 3 9]
 |9=>R 8 [m (s 6),y .sub (l 0) (i 1),m (l 1)] [(6,2)] []
 |10=>R 10 [m (s 1),m (s 0),e (l 1),y .add (l 2) (i 1),C 313 [r (l 0),r (i 1),r (l 3)] [],m (l 4)] [(7,5)] [0,1,6]
 |_=>T 11 [D (M 4 2 0 []) [4] [4],D (m (s 4)) [] [],D (m (s 7)) [] [],D (.slice 2 (l 1) none (some (l 2))) [0] [],D (p 5 2 32 (l 0) (l 3)) [0,4,5,100000] [0,4,5,100000],D (P 2 (s 5)) [1] [],D (M 6 2 1 [l 5]) [6,9] [6,9],D (p 7 2 32 (l 4) (l 6)) [5,6,7] [5,6,7],D (m (s 4)) [] [],D (m (s 7)) [] [],D (.slice 2 (l 8) (some (l 9)) none) [0] [],D (p 8 2 32 (l 7) (l 10)) [0,7,8,100000] [0,7,8,100000],D (m (l 11)) [] []] [(2,12)] [4,5,7]
def PW:Bh:=⟨10,10,[0,1],0,false,[],j (d (BB 0)) (j (d (BB 1)) (j (d (BB 2)) (j (j (d (BB 3)) (h 8 (j (d (BB 4)) (.ret)) (.skip))) (j (d (BB 5)) (j (j (d (BB 6)) (.block 0 (.loop (j (j (d (BB 7)) (h 9 (.skip) (.exit 0))) (j (.block 1 (d (BB 8))) (d (BB 9))))))) (j (d (BB 10)) (j (d (BB 11)) (.ret)))))))),[.slot 2]⟩
def Abi:List Tmp:=[0,1,4,5,6,7,8,9,27,34]
attribute [simp] Db Wd BB PW
end Go.Eng.T
namespace Go.Eng.T
set_option maxRecDepth 20000
set_option maxHeartbeats 1000000
theorem Aqn (D:Dn):F4 (Body D PO):=by
 intro xs ys h1 h2
 unfold maxLen at h1 h2
 by_cases hl:xs.length=ys.length
 rotate_left
 ·have hl':¬(xs.length:Int)=ys.length:=by omega
  have:xs≠ys:=fun h=>hl (by rw[h])
  simp -implicitDefEqProofs [hl',this]
 have hl':(xs.length:Int)=ys.length:=by omega
 simp -implicitDefEqProofs [hl']
 refine Ae (fun k s=>∃j,j+k=xs.length∧xs.take j=ys.take j∧s=⟨[.sl 1 1 xs.length (ints xs),.sl 1 1 ys.length (ints ys),.undef,I j,.undef,.undef,.undef],[]⟩) ?_ (xs.length) _ ⟨0,by simp,by simp,by simp⟩
 intro k s ⟨j,hj,hp,hs⟩
 subst hs
 by_cases hjn:j<xs.length
 ·have hw:IntKind.i64.wrap ((j:Int)+1)=(j+1:Nat):=by rw[Ad (by omega) (by omega)];simp
  have hy:j<ys.length:=by omega
  by_cases he:xs[j]=ys[j]
  ·simp -implicitDefEqProofs [hjn,hy,he]
   exact⟨k-1,by omega,j+1,by omega,J5 hjn hy hp he,by simp[hw]⟩
  ·have hne:xs≠ys:=fun h=>he (by simp[h])
   simp -implicitDefEqProofs [hjn,hy,he,hne]
 ·obtain rfl:xs=ys:=Mq (by omega) hl hp
  simp -implicitDefEqProofs [hjn]
theorem AAq (D:Dn):F4 (Body D Hu):=by
 intro xs ys h1 h2
 unfold maxLen at h1 h2
 by_cases hl:xs.length=ys.length
 rotate_left
 ·have hl':¬(xs.length:Int)=ys.length:=by omega
  have:xs≠ys:=fun h=>hl (by rw[h])
  simp -implicitDefEqProofs [hl',this]
 have hl':(xs.length:Int)=ys.length:=by omega
 simp -implicitDefEqProofs [hl']
 refine Ae (fun k s=>∃j,j+k=xs.length∧xs.take j=ys.take j∧s=⟨[.sl 1 1 xs.length (ints xs),.sl 1 1 ys.length (ints ys),.undef,.undef,.undef,I ys.length,I j,.undef,.undef],[]⟩) ?_ (xs.length) _ ⟨0,by simp,by simp,by simp⟩
 intro k s ⟨j,hj,hp,hs⟩
 subst hs
 by_cases hjn:j<xs.length
 ·have hw:IntKind.i64.wrap ((j:Int)+1)=(j+1:Nat):=by rw[Ad (by omega) (by omega)];simp
  have hy:j<ys.length:=by omega
  by_cases he:xs[j]=ys[j]
  ·simp -implicitDefEqProofs [hjn,hy,he]
   exact⟨k-1,by omega,j+1,by omega,J5 hjn hy hp he,by simp[hw]⟩
  ·have hne:xs≠ys:=fun h=>he (by simp[h])
   simp -implicitDefEqProofs [hjn,hy,he,hne]
 ·obtain rfl:xs=ys:=Mq (by omega) hl hp
  simp -implicitDefEqProofs [hjn]
abbrev QT (R:Rel):Prop:=∀a b:List Ext,Ub a→Ub b→R [.sl 1 2 a.length (a.flatMap Br),.sl 1 2 b.length (b.flatMap Br)] [] (B (decide (a=b))) []
abbrev U9 (R:Rel):Prop:=∀a b:Ext,a.body.length≤4194304→b.body.length≤4194304→R [arg (Br a),arg (Br b)] [] (B (decide (a=b))) []
theorem ext_eq {a b:Ext} (h1:a.tag=b.tag) (h2:a.body=b.body):a=b:=by cases a;cases b;simp_all
theorem Apj (D:Dn) (hE:F4 (D WG)):QT (Body D PY):=by
 intro a b ha hb
 have h1:=ha.1
 have h2:=hb.1
 by_cases hl:a.length=b.length
 rotate_left
 ·have hl':¬(a.length:Int)=b.length:=by omega
  have:a≠b:=fun h=>hl (by rw[h])
  simp -implicitDefEqProofs [hl',this]
 have hl':(a.length:Int)=b.length:=by omega
 simp -implicitDefEqProofs [hl']
 refine Ae (fun k s=>∃j,j+k=a.length∧a.take j=b.take j∧s=⟨[.sl 1 2 a.length (a.flatMap Br),.sl 1 2 b.length (b.flatMap Br),.undef,I j,.undef,.undef,.undef],[]⟩) ?_ (a.length) _ ⟨0,by simp,by simp,by simp⟩
 intro k s ⟨j,hj,hp,hs⟩
 subst hs
 by_cases hjn:j<a.length
 ·have hw:IntKind.i64.wrap ((j:Int)+1)=(j+1:Nat):=by rw[Ad (by omega) (by omega)];simp
  have hy:j<b.length:=by omega
  by_cases g1:a[j].tag=b[j].tag
  rotate_left
  ·have hne:a≠b:=fun h=>g1 (by simp[h])
   simp -implicitDefEqProofs [hjn,hy,g1,hne]
  simp -implicitDefEqProofs [hjn,hy,g1]
  refine Aa (hE a[j].body b[j].body (by have:=Mr ha hjn;unfold maxLen;omega) (by have:=Mr hb hy;unfold maxLen;omega)) ?_
  by_cases g2:a[j].body=b[j].body
  ·simp -implicitDefEqProofs [g2]
   exact⟨k-1,by omega,j+1,by omega,J5 hjn hy hp (ext_eq g1 g2),by simp[hw]⟩
  ·have hne:a≠b:=fun h=>g2 (by simp[h])
   simp -implicitDefEqProofs [g2,hne]
 ·obtain rfl:a=b:=Mq (by omega) hl hp
  simp -implicitDefEqProofs [hjn]
theorem Avm (D:Dn) (hE:F4 (D KH)):U9 (Body D Ry):=by
 intro a b ha hb
 by_cases g1:a.tag=b.tag
 rotate_left
 ·have hne:a≠b:=fun h=>g1 (by simp[h])
  simp -implicitDefEqProofs [g1,hne]
 simp -implicitDefEqProofs [g1]
 refine Aa (hE a.body b.body (by unfold maxLen;omega) (by unfold maxLen;omega)) ?_
 by_cases g2:a.body=b.body
 ·have e:=ext_eq g1 g2
  simp -implicitDefEqProofs [g2,e]
 ·have hne:a≠b:=fun h=>g2 (by simp[h])
  simp -implicitDefEqProofs [g2,hne]
abbrev WA (D:Dn) (R:Rel):Prop:=∀(a b:List Ext) (g:Nat),Ub a→Ub b→U9 (D g)→R [.sl 1 2 a.length (a.flatMap Br),.sl 1 2 b.length (b.flatMap Br),.fn g []] [] (B (decide (a=b))) []
theorem Atg (D:Dn):WA D (Body D Bq):=by
 intro a b g ha hb hg
 have h1:=ha.1
 have h2:=hb.1
 by_cases hl:a.length=b.length
 rotate_left
 ·have hl':¬(a.length:Int)=b.length:=by omega
  have:a≠b:=fun h=>hl (by rw[h])
  simp -implicitDefEqProofs [hl',this]
 have hl':(a.length:Int)=b.length:=by omega
 simp -implicitDefEqProofs [hl']
 refine Ae (fun k s=>∃j o0 o1,j+k=a.length∧a.take j=b.take j∧s=⟨[.undef,.sl 1 2 b.length (b.flatMap Br),.fn g [],.undef,.undef,.undef,.undef,.undef,.sl 1 2 a.length (a.flatMap Br),I b.length,I j,.undef,.undef],[o0,o1]⟩) ?_ (a.length) _ ⟨0,.free,.free,by simp,by simp,by simp⟩
 intro k s ⟨j,o0,o1,hj,hp,hs⟩
 subst hs
 by_cases hjn:j<a.length
 ·have hw:IntKind.i64.wrap ((j:Int)+1)=(j+1:Nat):=by rw[Ad (by omega) (by omega)];simp
  have hy:j<b.length:=by omega
  simp -implicitDefEqProofs [hjn,hy,↓Q8 Q0]
  refine Aa (hg a[j] b[j] (Mr ha hjn) (Mr hb hy)) ?_
  by_cases g2:a[j]=b[j]
  ·simp -implicitDefEqProofs [g2]
   exact⟨k-1,by omega,j+1,by omega,J5 hjn hy hp g2,by simp[hw]⟩
  ·have hne:a≠b:=fun h=>g2 (by simp[h])
   simp -implicitDefEqProofs [g2,hne]
 ·obtain rfl:a=b:=Mq (by omega) hl hp
  simp -implicitDefEqProofs [hjn]
theorem AoC (D:Dn) (h1:U9 (D AjL)) (hE:WA D (D Fp)):QT (Body D PN):=by
 intro a b ha hb
 simp -implicitDefEqProofs
 refine Aa (hE a b _ ha hb h1) ?_
 simp -implicitDefEqProofs
abbrev LX (R:Rel):Prop:=∀a b:Hello,hB a→hB b→R [arg (CU a),arg (CU b)] [] (B (decide (a=b))) []
theorem Ais {a b:Hello} (h1:a.versions=b.versions) (h2:a.exts=b.exts):a=b:=by cases a;cases b;simp_all
theorem Ai0 (D:Dn) (hE:F4 (D WG)) (hX:QT (D WI)):LX (Body D Mc):=by
 intro a b ha hb
 simp -implicitDefEqProofs
 refine Aa (hE a.versions b.versions (by have:=ha.1;unfold maxLen;omega) (by have:=hb.1;unfold maxLen;omega)) ?_
 by_cases g1:a.versions=b.versions
 rotate_left
 ·have hne:a≠b:=fun h=>g1 (by simp[h])
  simp -implicitDefEqProofs [g1,hne]
 simp -implicitDefEqProofs [g1]
 refine Aa (hX a.exts b.exts ha.2 hb.2) ?_
 by_cases g2:a.exts=b.exts
 ·have e:=Ais g1 g2
  simp -implicitDefEqProofs [g2,e]
 ·have hne:a≠b:=fun h=>g2 (by simp[h])
  simp -implicitDefEqProofs [g2,hne]
theorem AkN (D:Dn) (hE:F4 (D KH)) (hX:QT (D Af5)):LX (Body D M4):=by
 intro a b ha hb
 simp -implicitDefEqProofs
 refine Aa (hE a.versions b.versions (by have:=ha.1;unfold maxLen;omega) (by have:=hb.1;unfold maxLen;omega)) ?_
 by_cases g1:a.versions=b.versions
 rotate_left
 ·have hne:a≠b:=fun h=>g1 (by simp[h])
  simp -implicitDefEqProofs [g1,hne]
 simp -implicitDefEqProofs [g1]
 refine Aa (hX a.exts b.exts ha.2 hb.2) ?_
 by_cases g2:a.exts=b.exts
 ·have e:=Ais g1 g2
  simp -implicitDefEqProofs [g2,e]
 ·have hne:a≠b:=fun h=>g2 (by simp[h])
  simp -implicitDefEqProofs [g2,hne]
theorem AnI:∀ {path:List Gu} {h:Hello},hB h→hB (Iu path h).1
 | [],h,hh=>hh
 | b::r,h,hh=>by
  unfold Iu
  split
  ·exact AnI (Apm hh)
  ·exact AiP
theorem O7 {path:List Gu} {h:Hello} (hh:hB h):hB (A7 path h).1:=by
 unfold A7
 split
 ·exact AnI hh
 ·exact AiP
theorem AfQ:∀ {path:List Gu} {h:Hello},(Iu path h).2=true→(Iu path h).1.versions=h.versions
 | [],h,_=>rfl
 | b::r,h,hk=>by
  unfold Iu at hk⊢
  split at hk
  ·rename_i hb
   rw[if_pos hb,AfQ hk]
   unfold BS at hb⊢
   split at hb
   ·rename_i hc;rw[if_pos hc]
   ·cases hb
  ·cases hk
theorem Ank {path:List Gu} {h:Hello} (hk:(A7 path h).2=true):(A7 path h).1.versions=h.versions:=by
 unfold A7 at hk⊢
 split at hk
 ·rename_i hc;rw[if_pos hc];exact AfQ hk
 ·cases hk
def Dw (h:Hello) (path:List Gu):Bool:=(A7 path h).2&&decide ((A7 path h).1=h)
abbrev FX (R:Rel):Prop:=∀(h:Hello) (path:List Gu),hB h→lnS Hw path→R [arg (CU h),.sl 1 4 path.length (path.flatMap CF)] [] (B (Dw h path)) []
theorem AkE (D:Dn) (hP:FN (D Mj)) (hQ:LX (D AcO)):FX (Body D MN):=by
 intro h path hh hb
 simp -implicitDefEqProofs
 refine Aa (hP path h hb hh) ?_
 have hr:=O7 (path:=path) hh
 have e:Dw h path=((A7 path h).2&&decide ((A7 path h).1=h)):=rfl
 generalize A7 path h=r at hr e
 by_cases g1:r.2=true
 rotate_left
 ·simp -implicitDefEqProofs [g1,e]
 simp -implicitDefEqProofs [g1]
 refine Aa (hQ r.1 h hr hh) ?_
 simp -implicitDefEqProofs [e,g1]
theorem Ajk (D:Dn) (hP:FN (D L9)) (hQ:LX (D AbI)):FX (Body D M8):=by
 intro h path hh hb
 simp -implicitDefEqProofs
 refine Aa (hP path h hb hh) ?_
 have hr:=O7 (path:=path) hh
 have e:Dw h path=((A7 path h).2&&decide ((A7 path h).1=h)):=rfl
 generalize A7 path h=r at hr e
 by_cases g1:r.2=true
 rotate_left
 ·simp -implicitDefEqProofs [g1,e]
 simp -implicitDefEqProofs [g1]
 refine Aa (hQ r.1 h hr hh) ?_
 simp -implicitDefEqProofs [e,g1]
end Go.Eng.T
namespace Go.Eng.T
set_option maxRecDepth 20000
set_option maxHeartbeats 1000000
def IY (path:List Gu) (vs:List Int) (x:Ext):Bool:= !Dw ⟨vs.take 1,[x]⟩ path
def Ff (path:List Gu) (vs:List Int) (l:List Ext):List Int:=if EC l&&isOpen path vs then Aq (l.filter (IY path vs))else []
abbrev LA (R:Rel):Prop:=∀(path:List Gu) (vs:List Int) (l:List Ext),lnS Hw path→vs.length≤4194304→Ub l→R [.sl 1 4 path.length (path.flatMap CF),.sl 1 1 vs.length (ints vs),.sl 1 2 l.length (l.flatMap Br)] [] (.sl 0 1 (Ff path vs l).length (ints (Ff path vs l))) []
theorem AqW {path:List Gu} {vs:List Int} (h:isOpen path vs=true):0<vs.length:=by
 unfold isOpen at h
 simp only[Bool.and_eq_true]at h
 exact XJ h.1
theorem AjO {p:Ext→Bool} {l:List Ext} {j:Nat} (h:j<l.length):Aq ((l.take (j+1)).filter p)=Aq ((l.take j).filter p)++(if p l[j]then [l[j].tag]else []):=by
 rw[Aaf h]
 unfold Aq
 rw[List.map_append]
 split<;>simp
theorem An4 {p:Ext→Bool} {l:List Ext} {j:Nat}:(Aq ((l.take j).filter p)).length≤j:=by
 unfold Aq
 rw[List.length_map]
 exact AdH
theorem AtL {path:List Gu} {vs:List Int} {x:Ext}:IY path vs x= !((A7 path ⟨vs.take 1,[x]⟩).2&&decide ((A7 path ⟨vs.take 1,[x]⟩).1.exts=[x])):=by
 unfold IY Dw
 by_cases h:(A7 path ⟨vs.take 1,[x]⟩).2=true
 ·have hv:=Ank h
  have e:decide ((A7 path ⟨vs.take 1,[x]⟩).1=⟨vs.take 1,[x]⟩)=decide ((A7 path ⟨vs.take 1,[x]⟩).1.exts=[x]):=by
   rw[decide_eq_decide]
   constructor
   ·intro h1;rw[h1]
   ·intro h1;exact Ais hv h1
  rw[e]
 ·simp[h]
theorem AsJ (D:Dn) (hA:FV (D KC)) (hO:G9 (D Vd)) (hH:Gb (D UY)) (hP:FN (D Mj)) (hX:QT (D WI)):LA (Body D Sl):=by
 intro path vs l hb hv hl
 have hll:=hl.1
 simp -implicitDefEqProofs
 refine Aa (hA l hl) ?_
 by_cases h1:EC l=true
 rotate_left
 ·simp -implicitDefEqProofs [h1,Ff]
 simp -implicitDefEqProofs [h1]
 refine Aa (hO path vs hb hv) ?_
 by_cases h2:isOpen path vs=true
 rotate_left
 ·simp -implicitDefEqProofs [h2,h1,Ff]
 have e:Ff path vs l=Aq (l.filter (IY path vs)):=by unfold Ff;rw[h1,h2];rfl
 have hpos:=AqW h2
 have h1l:(1:Int)≤vs.length:=by omega
 have h1n:1≤vs.length:=by omega
 have hlen:(vs.take 1).length=1:=by simp;omega
 have hmin:min 1 vs.length=1:=by omega
 rw[e]
 simp -implicitDefEqProofs [h2]
 refine Ae (fun k s=>∃j o1 o2 o3 o4 o5 o6 o7 o8,j+k=l.length∧s=⟨[.sl 1 4 path.length (path.flatMap CF),.sl 1 1 vs.length (ints vs),.sl 1 2 l.length (l.flatMap Br),.undef,.arr 9,I j,.undef,.undef,.undef,.undef,.undef,.undef],[.free,o1,o2,o3,o4,o5,o6,o7,o8,.arr 1 0 (Aq ((l.take j).filter (IY path vs))).length (ints (Aq ((l.take j).filter (IY path vs))))]⟩) ?_ (l.length) _ ⟨0,.free,.free,.free,.free,.free,.free,.free,.free,by simp,by simp[Aq,ints]⟩
 intro k s ⟨j,o1,o2,o3,o4,o5,o6,o7,o8,hj,hs⟩
 subst hs
 by_cases hjn:j<l.length
 ·have hw:IntKind.i64.wrap ((j:Int)+1)=(j+1:Nat):=by rw[Ad (by omega) (by omega)];simp
  have hst:=AjO (p:=IY path vs) hjn
  have hfl:=An4 (p:=IY path vs) (l:=l) (j:=j)
  have hb1:((Aq ((l.take j).filter (IY path vs))).length+1)*8≤1099511627776:=by omega
  have hw1:IntKind.i64.wrap ((j:Int)+1)=(j:Int)+1:=Ad (by omega) (by omega)
  have hj1:j+1≤l.length:=by omega
  have hj2:(j:Int)+1≤l.length:=by omega
  have hjj:(j:Int)≤(j:Int)+1:=by omega
  have h11:j+1-j=1:=by omega
  simp -implicitDefEqProofs [hjn,h1l,h1n]
  have hh:=hH (vs.take 1) (by omega)
  rw[hlen]at hh
  refine Aa (hh) ?_
  have hdt:(l.drop j).take 1=[l[j]]:=by rw[List.drop_eq_getElem_cons hjn];rfl
  simp -implicitDefEqProofs [hmin,hw1,hj1,hj2,hjj,h11,hdt]
  have hhB:hB ⟨vs.take 1,[l[j]]⟩:=⟨by simp;omega,by simp,by intro x hx;simp at hx;subst hx;exact Mr hl hjn⟩
  have hp:=hP path ⟨vs.take 1,[l[j]]⟩ hb hhB
  have hr:=O7 (path:=path) hhB
  have hq:=AtL (path:=path) (vs:=vs) (x:=l[j])
  simp -implicitDefEqProofs [hmin,arg]at hp
  refine Aa (hp) ?_
  generalize A7 path ⟨vs.take 1,[l[j]]⟩=r at hr hq
  by_cases g1:r.2=true
  rotate_left
  ·have h3:IY path vs l[j]=true:=by rw[hq];simp[g1]
   rw[if_pos h3]at hst
   simp -implicitDefEqProofs [g1,hjn,hb1]
   exact⟨k-1,by omega,j+1,by omega,by simp[hw],by rw[hst];simp,by rw[hst]⟩
  simp -implicitDefEqProofs [g1]
  have hx:=hX r.1.exts [l[j]] hr.2 hhB.2
  simp -implicitDefEqProofs [arg]at hx
  refine Aa (hx) ?_
  by_cases g2:r.1.exts=[l[j]]
  ·have h3:¬IY path vs l[j]=true:=by rw[hq];simp[g1,g2]
   rw[if_neg h3,List.append_nil]at hst
   simp -implicitDefEqProofs [g2]
   exact⟨k-1,by omega,j+1,by omega,by simp[hw],by rw[hst],by rw[hst]⟩
  ·have h3:IY path vs l[j]=true:=by rw[hq];simp[g2]
   rw[if_pos h3]at hst
   simp -implicitDefEqProofs [g2,hjn,hb1]
   exact⟨k-1,by omega,j+1,by omega,by simp[hw],by rw[hst];simp,by rw[hst]⟩
 ·have e2:(l.take j).filter (IY path vs)=l.filter (IY path vs):=AdG (by omega)
  simp -implicitDefEqProofs [hjn,e2]
theorem ArD (D:Dn) (hA:FV (D KR)) (hO:G9 (D AeU)) (hP:FX (D Td)):LA (Body D Sg):=by
 intro path vs l hb hv hl
 have hll:=hl.1
 simp -implicitDefEqProofs
 refine Aa (hO path vs hb hv) ?_
 by_cases h2:isOpen path vs=true
 rotate_left
 ·simp -implicitDefEqProofs [h2,Ff]
 simp -implicitDefEqProofs [h2]
 refine Aa (hA l hl) ?_
 by_cases h1:EC l=true
 rotate_left
 ·simp -implicitDefEqProofs [h1,Ff]
 have e:Ff path vs l=Aq (l.filter (IY path vs)):=by unfold Ff;rw[h1,h2];rfl
 have hpos:=AqW h2
 have h1l:(1:Int)≤vs.length:=by omega
 have h1n:1≤vs.length:=by omega
 have hlen:(vs.take 1).length=1:=by simp;omega
 have hmin:min 1 vs.length=1:=by omega
 rw[e]
 simp -implicitDefEqProofs [h1]
 refine Ae (fun k s=>∃j v5 o1 o2 o3 o4,j+k=l.length∧s=⟨[.sl 1 4 path.length (path.flatMap CF),.sl 1 1 vs.length (ints vs),.undef,.undef,.arr 5,v5,.undef,.sl 1 2 l.length (l.flatMap Br),I l.length,I j,.undef,.undef],[.free,o1,o2,o3,o4,.arr 1 0 (Aq ((l.take j).filter (IY path vs))).length (ints (Aq ((l.take j).filter (IY path vs))))]⟩) ?_ (l.length) _ ⟨0,.undef,.free,.free,.free,.free,by simp,by simp[Aq,ints]⟩
 intro k s ⟨j,v5,o1,o2,o3,o4,hj,hs⟩
 subst hs
 by_cases hjn:j<l.length
 ·have hw:IntKind.i64.wrap ((j:Int)+1)=(j+1:Nat):=by rw[Ad (by omega) (by omega)];simp
  have hst:=AjO (p:=IY path vs) hjn
  have hfl:=An4 (p:=IY path vs) (l:=l) (j:=j)
  have hb1:((Aq ((l.take j).filter (IY path vs))).length+1)*8≤1099511627776:=by omega
  have hhB:hB ⟨vs.take 1,[l[j]]⟩:=⟨by simp;omega,by simp,by intro x hx;simp at hx;subst hx;exact Mr hl hjn⟩
  simp -implicitDefEqProofs [hjn,h1l,h1n]
  have hp:=hP ⟨vs.take 1,[l[j]]⟩ path hhB hb
  have hq:IY path vs l[j]= !Dw ⟨vs.take 1,[l[j]]⟩ path:=rfl
  simp -implicitDefEqProofs [hmin,arg]at hp
  refine Aa (hp) ?_
  generalize Dw ⟨vs.take 1,[l[j]]⟩ path=r at hq
  by_cases g1:r=true
  ·have h3:¬IY path vs l[j]=true:=by rw[hq,g1];simp
   rw[if_neg h3,List.append_nil]at hst
   simp -implicitDefEqProofs [g1]
   exact⟨k-1,by omega,j+1,by omega,by simp[hw],by rw[hst],by rw[hst]⟩
  ·have h3:IY path vs l[j]=true:=by rw[hq];simpa using g1
   rw[if_pos h3]at hst
   simp -implicitDefEqProofs [g1,hjn,hb1]
   exact⟨k-1,by omega,j+1,by omega,by simp[hw],by rw[hst];simp,by rw[hst]⟩
 ·have e2:(l.take j).filter (IY path vs)=l.filter (IY path vs):=AdG (by omega)
  simp -implicitDefEqProofs [hjn,e2]
end Go.Eng.T
namespace Go.Eng.T
set_option maxRecDepth 20000
set_option maxHeartbeats 1000000
theorem K3 (a b:List Int):(leftOf a b).length≤a.length:=List.length_filter_le _ _
def Fh (h:Hello) (lv lt:List Int):Hello×Bool:=if CP h&& !decide (leftOf h.versions lv=[])then(⟨leftOf h.versions lv,kept (fun t=> !decide (t∈lt)) h.exts⟩,true)else(AQ,false)
abbrev JJ (R:Rel):Prop:=∀(h:Hello) (lv lt:List Int),hB h→lv.length≤4194304→lt.length≤4194304→R [arg (CU h),.sl 1 1 lv.length (ints lv),.sl 1 1 lt.length (ints lt)] [] (.tup [.agg (CU (Fh h lv lt).1),B (Fh h lv lt).2]) []
theorem Ap7 (D:Dn) (hI:Eb (D Gi)) (hH:R6 (D Jl)):JJ (Body D Qd):=by
 intro h lv lt hh hv ht
 have hvl:=hh.1
 have hxl:=hh.2.1
 simp -implicitDefEqProofs
 refine Aa (hI h hh) ?_
 by_cases h1:CP h=true
 rotate_left
 ·simp -implicitDefEqProofs [h1,Fh,AQ]
 have e1:leftOf h.versions lv=h.versions.filter (fun v=> !decide (v∈lv)):=rfl
 unfold Fh
 rw[h1,e1]
 generalize hp:(fun v=> !decide (v∈lv))=p
 generalize hq:(fun t=> !decide (t∈lt))=q
 obtain⟨vs,hvs⟩:∃vs,vs=h.versions.filter p:=⟨_,rfl⟩
 rw[←hvs]
 simp -implicitDefEqProofs [h1]
 refine Ae (fun k s=>∃j o3 o4,j+k=h.versions.length∧s=⟨[.undef,.sl 1 1 lv.length (ints lv),.sl 1 1 lt.length (ints lt),.ptr 0 0,.ptr 1 0,.undef,.ptr 2 0,I j,.undef,.undef,.undef,.undef,.undef,.undef,.undef],[.var ((CU h).map (AZ 1)),.var [.nil 1,.nil 2],.var [.arr 9,.arr 10],o3,o4,.free,.free,.free,.free,.arr 1 0 ((h.versions.take j).filter p).length (ints ((h.versions.take j).filter p)),.arr 2 0 0 []]⟩) ?_ (h.versions.length) _ ⟨0,.free,.free,by simp,by simp⟩
 intro k s ⟨j,o3,o4,hj,hs⟩
 subst hs
 by_cases hjn:j<h.versions.length
 ·have hw:IntKind.i64.wrap ((j:Int)+1)=(j+1:Nat):=by rw[Ad (by omega) (by omega)];simp
  have hst:=LH (p:=p) hjn
  have hfl:=OM (p:=p) (xs:=h.versions) (j:=j)
  have hb1:(((h.versions.take j).filter p).length+1)*8≤1099511627776:=by omega
  have hpv:p h.versions[j]= !decide (h.versions[j]∈lv):=by rw[←hp]
  simp -implicitDefEqProofs [hjn]
  refine Aa (hH lv h.versions[j] (by unfold maxLen;omega)) ?_
  by_cases h2:h.versions[j]∈lv
  ·have h3:¬p h.versions[j]=true:=by rw[hpv];simpa using h2
   rw[if_neg h3,List.append_nil]at hst
   simp -implicitDefEqProofs [h2]
   exact⟨k-1,by omega,j+1,by omega,by simp[hw],by rw[hst],by rw[hst]⟩
  ·have h3:p h.versions[j]=true:=by rw[hpv];simpa using h2
   rw[if_pos h3]at hst
   simp -implicitDefEqProofs [h2,hjn,hb1]
   exact⟨k-1,by omega,j+1,by omega,by simp[hw],by rw[hst];simp,by rw[hst]⟩
 have e2:=Nh (p:=p) (xs:=h.versions) (j:=j) (by omega)
 rw[←hvs]at e2
 simp -implicitDefEqProofs [hjn,e2]
 refine Ae (fun k s=>∃j o3 o4 o5 o6 o7 o8,j+k=h.exts.length∧s=⟨[.undef,.undef,.sl 1 1 lt.length (ints lt),.ptr 0 0,.ptr 1 0,.undef,.ptr 2 0,.undef,I j,.undef,.undef,.undef,.undef,.undef,.undef],[.var ((CU h).map (AZ 1)),.var [.nil 1,.nil 2],.var [.arr 9,.arr 10],o3,o4,o5,o6,o7,o8,.arr 1 0 vs.length (ints vs),.arr 2 0 (kept q (h.exts.take j)).length ((kept q (h.exts.take j)).flatMap Br)]⟩) ?_ (h.exts.length) _ ⟨0,o3,o4,.free,.free,.free,.free,by simp,by simp[kept]⟩
 intro k s ⟨j,o3,o4,o5,o6,o7,o8,hj,hs⟩
 subst hs
 by_cases hjn:j<h.exts.length
 ·have hw:IntKind.i64.wrap ((j:Int)+1)=(j+1:Nat):=by rw[Ad (by omega) (by omega)];simp
  have hb:=Mr hh.2 hjn
  have hb1:h.exts[j].body.length*8≤1099511627776:=by omega
  have hkl:=Vb (p:=q) (l:=h.exts) (j:=j)
  have hb2:((kept q (h.exts.take j)).length+1)*32≤1099511627776:=by omega
  have hpv:q h.exts[j].tag= !decide (h.exts[j].tag∈lt):=by rw[←hq]
  simp -implicitDefEqProofs [hjn]
  refine Aa (hH lt h.exts[j].tag (by unfold maxLen;omega)) ?_
  by_cases h2:h.exts[j].tag∈lt
  ·have h3:¬q h.exts[j].tag=true:=by rw[hpv];simpa using h2
   have hst:=YK (p:=q) hjn
   rw[if_neg h3,List.append_nil]at hst
   simp -implicitDefEqProofs [h2]
   exact⟨k-1,by omega,j+1,by omega,by simp[hw],by rw[hst],by rw[hst]⟩
  ·have h3:q h.exts[j].tag=true:=by rw[hpv];simpa using h2
   have hst:=Q7 hjn h3
   have hsl:=I8 hjn h3
   simp -implicitDefEqProofs [h2,hjn,hb1,hb2]
   exact⟨k-1,by omega,j+1,by omega,by simp[hw],by rw[←hsl],by rw[←hst]⟩
 have e3:=UL (p:=q) (l:=h.exts) (j:=j) (by omega)
 by_cases g:vs=[]
 ·simp -implicitDefEqProofs [hjn,e3,g,AQ]
 ·have g':¬(vs.length:Int)=0:=by
   intro h0
   exact g (List.eq_nil_of_length_eq_zero (by omega))
  simp -implicitDefEqProofs [hjn,e3,g',g]
abbrev SS (R:Rel):Prop:=∀(t:Int) (tags:List Int),tags.length≤maxLen→R [I t,.rptr 1 [.sl 0 1 tags.length (ints tags)] 0] [] (B (!decide (t∈tags))) []
theorem Aqs (D:Dn) (hH:R6 (D Bn)):SS (Body D Mv):=by
 intro t tags hl
 simp -implicitDefEqProofs
 refine Aa (hH tags t hl) ?_
 simp -implicitDefEqProofs
theorem Apo (D:Dn) (hI:Eb (D Hl)) (hL:WC (D OE)) (h1:SS (D Ta)) (hK:LP D (D JF)):JJ (Body D Qj):=by
 intro h lv lt hh hv ht
 simp -implicitDefEqProofs
 refine Aa (hL h.versions lv hh.1 hv) ?_
 have hll:=K3 h.versions lv
 unfold Fh
 generalize leftOf h.versions lv=vs at hll
 simp -implicitDefEqProofs
 refine Aa (hI h hh) ?_
 by_cases g1:CP h=true
 rotate_left
 ·simp -implicitDefEqProofs [g1,AQ]
 by_cases g:vs=[]
 ·simp -implicitDefEqProofs [g1,g,AQ]
 have g':¬(vs.length:Int)=0:=by
  intro h0
  exact g (List.eq_nil_of_length_eq_zero (by omega))
 simp -implicitDefEqProofs [g1,g',g]
 refine Aa (hK h.exts Ta _ (fun t=> !decide (t∈lt)) hh.2 (ZU ER) (Abf Q0) (fun t=>h1 t lt (by unfold maxLen;omega))) ?_
 simp -implicitDefEqProofs
def fallback (h:Hello) (path:List Gu):Hello×Bool:=Fh h (Bj path h.versions) (Ff path (leftOf h.versions (Bj path h.versions)) h.exts)
abbrev LD (R:Rel):Prop:=∀(h:Hello) (path:List Gu),hB h→lnS Hw path→R [arg (CU h),.sl 1 4 path.length (path.flatMap CF)] [] (.tup [.agg (CU (fallback h path).1),B (fallback h path).2]) []
theorem AcI (path:List Gu) (vs:List Int) (l:List Ext):(Ff path vs l).length≤l.length:=by
 unfold Ff Aq
 split
 ·rw[List.length_map];exact List.length_filter_le _ _
 ·simp
theorem AqY (D:Dn) (hI:Eb (D Gi)) (hLV:Gc (D Aae)) (hL:WC (D ZN)) (hT:LA (D AjX)) (hP:JJ (D AhG)):LD (Body D Kk):=by
 intro h path hh hb
 simp -implicitDefEqProofs
 refine Aa (hI h hh) ?_
 by_cases g1:CP h=true
 rotate_left
 ·have e:fallback h path=(AQ,false):=by unfold fallback Fh;simp[g1]
  simp -implicitDefEqProofs [g1,e,AQ]
 have hvl:=hh.1
 have hxl:=hh.2.1
 simp -implicitDefEqProofs [g1]
 refine Aa (hLV path h.versions hb hh.1) ?_
 have hll:=Asa path h.versions
 have e:fallback h path=Fh h (Bj path h.versions) (Ff path (leftOf h.versions (Bj path h.versions)) h.exts):=rfl
 rw[e]
 generalize Bj path h.versions=lv at hll
 simp -implicitDefEqProofs
 refine Aa (hL h.versions lv hh.1 (by omega)) ?_
 have hl2:=K3 h.versions lv
 generalize leftOf h.versions lv=vs at hl2
 simp -implicitDefEqProofs
 refine Aa (hT path vs h.exts hb (by omega) hh.2) ?_
 have hl3:=AcI path vs h.exts
 generalize Ff path vs h.exts=lt at hl3
 simp -implicitDefEqProofs
 refine Aa (hP h lv lt hh (by omega) (by omega)) ?_
 generalize Fh h lv lt=r
 simp -implicitDefEqProofs
theorem Asg (D:Dn) (hLV:Gc (D Aa0)) (hL:WC (D OE)) (hT:LA (D AiJ)) (hP:JJ (D Agb)):LD (Body D Kj):=by
 intro h path hh hb
 have hvl:=hh.1
 have hxl:=hh.2.1
 simp -implicitDefEqProofs [hvl]
 refine Aa (hLV path h.versions hb hh.1) ?_
 have hll:=Asa path h.versions
 have e:fallback h path=Fh h (Bj path h.versions) (Ff path (leftOf h.versions (Bj path h.versions)) h.exts):=rfl
 rw[e]
 generalize Bj path h.versions=lv at hll
 simp -implicitDefEqProofs
 refine Aa (hL h.versions lv hh.1 (by omega)) ?_
 have hl2:=K3 h.versions lv
 generalize leftOf h.versions lv=vs at hl2
 simp -implicitDefEqProofs
 refine Aa (hT path vs h.exts hb (by omega) hh.2) ?_
 have hl3:=AcI path vs h.exts
 generalize Ff path vs h.exts=lt at hl3
 simp -implicitDefEqProofs
 refine Aa (hP h lv lt hh (by omega) (by omega)) ?_
 generalize Fh h lv lt=r
 simp -implicitDefEqProofs
theorem ADE {h:Hello} {lv lt:List Int} (hh:hB h):hB (Fh h lv lt).1:=by
 unfold Fh
 split
 ·exact⟨Nat.le_trans (K3 _ _) hh.1,UN hh.2 (fun t=> !decide (t∈lt))⟩
 ·exact AiP
theorem Ap0 {h:Hello} {path:List Gu} (hh:hB h):hB (fallback h path).1:=ADE hh
def Cr (h:Hello) (path:List Gu):Hello×Int×Bool:=
 if CP h=true then(if Dw h path=true then(h,1,true)else if(fallback h path).2&&Dw (fallback h path).1 path then((fallback h path).1,2,true)else(AQ,2,false))else(AQ,0,false)
abbrev LM (R:Rel):Prop:=∀(h:Hello) (path:List Gu),hB h→lnS Hw path→R [arg (CU h),.sl 1 4 path.length (path.flatMap CF)] [] (.tup [.agg (CU (Cr h path).1),I (Cr h path).2.1,B (Cr h path).2.2]) []
theorem Asf (D:Dn) (hI:Eb (D Gi)) (hW:FX (D Adu)) (hC:KI (D X6)) (hF:LD (D Zc)):LM (Body D Rl):=by
 intro h path hh hb
 simp -implicitDefEqProofs
 refine Aa (hI h hh) ?_
 by_cases g1:CP h=true
 rotate_left
 ·simp -implicitDefEqProofs [g1,Cr,AQ]
 simp -implicitDefEqProofs [g1]
 refine Aa (hW h path hh hb) ?_
 by_cases g2:Dw h path=true
 ·simp -implicitDefEqProofs [g2]
  refine Aa (hC h hh) ?_
  simp -implicitDefEqProofs [Cr,g1,g2]
 simp -implicitDefEqProofs [g2]
 refine Aa (hF h path hh hb) ?_
 have hr:=Ap0 (path:=path) hh
 have e:Cr h path=(if(fallback h path).2&&Dw (fallback h path).1 path then((fallback h path).1,2,true)else(AQ,2,false)):=by unfold Cr;rw[if_pos g1,if_neg g2]
 rw[e]
 generalize fallback h path=r at hr
 by_cases g3:r.2=true
 rotate_left
 ·simp -implicitDefEqProofs [g3,AQ]
 simp -implicitDefEqProofs [g3]
 refine Aa (hW r.1 path hr hb) ?_
 by_cases g4:Dw r.1 path=true
 ·simp -implicitDefEqProofs [g3,g4]
 ·simp -implicitDefEqProofs [g3,g4,AQ]
theorem Asl (D:Dn) (hI:Eb (D Hl)) (hW:FX (D Td)) (hC:KI (D WK)) (hF:LD (D Y8)):LM (Body D Ri):=by
 intro h path hh hb
 simp -implicitDefEqProofs
 refine Aa (hI h hh) ?_
 by_cases g1:CP h=true
 rotate_left
 ·simp -implicitDefEqProofs [g1,Cr,AQ]
 simp -implicitDefEqProofs [g1]
 refine Aa (hW h path hh hb) ?_
 by_cases g2:Dw h path=true
 ·simp -implicitDefEqProofs [g2]
  refine Aa (hC h hh) ?_
  simp -implicitDefEqProofs [Cr,g1,g2]
 simp -implicitDefEqProofs [g2]
 refine Aa (hF h path hh hb) ?_
 have hr:=Ap0 (path:=path) hh
 have e:Cr h path=(if(fallback h path).2&&Dw (fallback h path).1 path then((fallback h path).1,2,true)else(AQ,2,false)):=by unfold Cr;rw[if_pos g1,if_neg g2]
 rw[e]
 generalize fallback h path=r at hr
 by_cases g3:r.2=true
 rotate_left
 ·simp -implicitDefEqProofs [g3,AQ]
 simp -implicitDefEqProofs [g3]
 refine Aa (hW r.1 path hr hb) ?_
 by_cases g4:Dw r.1 path=true
 ·simp -implicitDefEqProofs [g3,g4]
 ·simp -implicitDefEqProofs [g3,g4,AQ]
theorem Av6 {h:Hello} {path:List Gu} (hh:hB h):hB (Cr h path).1:=by
 unfold Cr
 split
 ·split
  ·exact hh
  ·split
   ·exact Ap0 hh
   ·exact AiP
 ·exact AiP
end Go.Eng.T
namespace Go.Eng.T
set_option maxRecDepth 20000
end Go.Eng.T
namespace Go.Eng.T
set_option maxRecDepth 20000
set_option maxHeartbeats 2000000
theorem up9:∀ {l:List Int} {a:Int},Up l→(∀x,x∈l→a<x∧x≤9)→(l.length:Int)≤9-a∨l=[]
 | [],_,_,_=> .inr rfl
 | x::r,a,h,hb=>by
  rw[Up,List.pairwise_cons]at h
  have h0:=hb x (by simp)
  have:=up9 (l:=r) (a:=x) h.2 (fun y hy=>⟨h.1 y hy,(hb y (by simp[hy])).2⟩)
  left
  rcases this with h1 | rfl
  ·simp only[List.length_cons];omega
  ·simp;omega
theorem Arj {l:List Int} (h:A9 l=true):l.length≤9:=by
 have:=up9 (l:=l) (a:=0) (An0 h) (fun x hx=>by have:=Awj h x hx;exact⟨by omega,by omega⟩)
 rcases this with h1 | rfl
 ·omega
 ·simp
end Go.Eng.T
namespace Go.Eng.T
set_option maxRecDepth 20000
set_option maxHeartbeats 1000000
theorem AAa {D:Dn} {c:Cf} {a:SC} {Q:Out→St→Prop} {s:St} (h:swp D c a (fun o s'=>match o with | .normal=>False | o=>Q o s') s):swp D c (.loop a) Q s:=⟨1,h⟩
def inB (t:Int):Bool:=decide (Q5 t 0 255)
def AfT (b:List Int) (t:Int):Bool:= !decide (t∈b)&&inB t
def VP (h x:Hello):List Int:=leftOf h.versions x.versions++((Aq h.exts).filter (AfT (Aq x.exts))).map (fun t=>1000+t)
theorem AxA (a b:List Int):(leftOf a b).filter inB=a.filter (AfT b):=by
 unfold leftOf
 rw[List.filter_filter]
 congr 1
 funext t
 unfold AfT
 cases inB t<;>cases decide (t∈b)<;>rfl
abbrev OY (R:Rel):Prop:=∀h x:Hello,hB h→hB x→R [arg (CU h),arg (CU x)] [] (.sl 0 1 (VP h x).length (ints (VP h x))) []
theorem Aol {p:Int→Bool} {a l:List Int} {j:Nat} (h:j<l.length):
 a++((l.take (j+1)).filter p).map (fun t=>1000+t)=(a++((l.take j).filter p).map (fun t=>1000+t))++(if p l[j]then [1000+l[j]]else []):=by
 rw[LH h,List.map_append,List.append_assoc]
 split<;>simp
theorem Aq4 {p:Int→Bool} {a l:List Int} {j:Nat}:(a++((l.take j).filter p).map (fun t=>1000+t)).length≤a.length+j:=by
 have:=OM (p:=p) (xs:=l) (j:=j)
 simp only[List.length_append,List.length_map];omega
theorem AtO (D:Dn) (hL:WC (D ZN)) (hX:Qn (D Tg)) (hI:SG (D CB)):OY (Body D Tn):=by
 intro h x hh hx
 have hxl:=hx.2.1
 have hhl:=hh.2.1
 have hvl:=hh.1
 simp -implicitDefEqProofs
 refine Aa (hL h.versions x.versions hh.1 hx.1) ?_
 have hal:=K3 h.versions x.versions
 have e:VP h x=leftOf h.versions x.versions++((Aq h.exts).filter (AfT (Aq x.exts))).map (fun t=>1000+t):=rfl
 rw[e]
 have hpd:∀t,AfT (Aq x.exts) t=(!decide (t∈Aq x.exts)&&inB t):=fun t=>rfl
 generalize leftOf h.versions x.versions=a at hal
 generalize AfT (Aq x.exts)=p at hpd
 have htl:(Aq h.exts).length=h.exts.length:=Nb _
 have hte:∀j (hj:j<h.exts.length),(Aq h.exts)[j]'(by omega)=h.exts[j].tag:=fun j hj=>by simp[Aq]
 obtain⟨l,hl⟩:∃l,l=Aq h.exts:=⟨_,rfl⟩
 rw[←hl]at htl⊢
 simp -implicitDefEqProofs
 refine Ae (fun k s=>∃j o3 o4,j+k=h.exts.length∧s=⟨[.undef,.undef,.ptr 0 0,.ptr 1 0,.undef,.arr 5,I j,.undef,.undef],[.var ((CU h).map (AZ 1)),.var ((CU x).map (AZ 1)),.free,o3,o4,.arr 1 0 (a++((l.take j).filter p).map (fun t=>1000+t)).length (ints (a++((l.take j).filter p).map (fun t=>1000+t)))]⟩) ?_ (h.exts.length) _ ⟨0,.free,.free,by simp,by simp⟩
 intro k s ⟨j,o3,o4,hj,hs⟩
 subst hs
 by_cases hjn:j<h.exts.length
 ·have hw:IntKind.i64.wrap ((j:Int)+1)=(j+1:Nat):=by rw[Ad (by omega) (by omega)];simp
  have hjl:j<l.length:=by omega
  have hlt:l[j]=h.exts[j].tag:=by subst hl;exact hte j hjn
  have hst:=Aol (p:=p) (a:=a) hjl
  have hfl:=Aq4 (p:=p) (a:=a) (l:=l) (j:=j)
  have hb1:((a++((l.take j).filter p).map (fun t=>1000+t)).length+1)*8≤1099511627776:=by omega
  have hpt:=hpd l[j]
  rw[hlt]at hst hpt
  generalize a++((l.take j).filter p).map (fun t=>1000+t)=r at hst hfl hb1
  simp -implicitDefEqProofs [hjn]
  refine Aa (hX x.exts h.exts[j].tag (by unfold maxLen;omega)) ?_
  by_cases h1:h.exts[j].tag∈Aq x.exts
  ·have h3:¬p h.exts[j].tag=true:=by rw[hpt];simp[h1]
   have h1':¬Js x.exts h.exts[j].tag<0:=by rw[LW];simpa using h1
   rw[if_neg h3,List.append_nil]at hst
   simp -implicitDefEqProofs [h1']
   have hsl:=congrArg List.length hst
   simp only[List.length_append,List.length_map]at hsl
   exact⟨k-1,by omega,j+1,by omega,by simp[hw],by omega,by rw[hst]⟩
  have h1':Js x.exts h.exts[j].tag<0:=by rw[LW];exact h1
  simp -implicitDefEqProofs [h1',hjn]
  refine Aa (hI _ _ _) ?_
  by_cases h2:Q5 h.exts[j].tag 0 255
  ·have h3:p h.exts[j].tag=true:=by rw[hpt];simp[h1,inB,h2]
   rw[if_pos h3]at hst
   have hw2:IntKind.i64.wrap (1000+h.exts[j].tag)=1000+h.exts[j].tag:=Ad (by have:=h2.1;omega) (by have:=h2.2;omega)
   simp -implicitDefEqProofs [h2,hjn,hb1,hw2]
   have hsl:=congrArg List.length hst
   simp only[List.length_append,List.length_map,List.length_cons,List.length_nil]at hsl
   exact⟨k-1,by omega,j+1,by omega,by simp[hw],by omega,by rw[hst]⟩
  ·have h3:¬p h.exts[j].tag=true:=by rw[hpt];simp[h1,inB,h2]
   rw[if_neg h3,List.append_nil]at hst
   simp -implicitDefEqProofs [h2]
   have hsl:=congrArg List.length hst
   simp only[List.length_append,List.length_map]at hsl
   exact⟨k-1,by omega,j+1,by omega,by simp[hw],by omega,by rw[hst]⟩
 ·have e2:=Nh (p:=p) (xs:=l) (j:=j) (by omega)
  simp -implicitDefEqProofs [hjn,e2]
theorem Au8 (D:Dn) (hL:WC (D OE)) (hT:KV (D QR)) (hI:SG (D Bz)):OY (Body D T9):=by
 intro h x hh hx
 have hxl:=hx.2.1
 have hhl:=hh.2.1
 have hvl:=hh.1
 simp -implicitDefEqProofs
 refine Aa (hL h.versions x.versions hh.1 hx.1) ?_
 have hal:=K3 h.versions x.versions
 have e:VP h x=leftOf h.versions x.versions++((Aq h.exts).filter (AfT (Aq x.exts))).map (fun t=>1000+t):=rfl
 rw[e,←AxA]
 generalize leftOf h.versions x.versions=a at hal
 simp -implicitDefEqProofs
 refine Aa (hT h.exts hh.2.1) ?_
 simp -implicitDefEqProofs
 refine Aa (hT x.exts hx.2.1) ?_
 simp -implicitDefEqProofs
 refine Aa (hL (Aq h.exts) (Aq x.exts) (by rw[Nb];omega) (by rw[Nb];omega)) ?_
 have hll:=K3 (Aq h.exts) (Aq x.exts)
 rw[Nb]at hll
 generalize leftOf (Aq h.exts) (Aq x.exts)=l at hll
 generalize hpd:inB=p
 simp -implicitDefEqProofs
 refine Ae (fun k s=>∃j v6 o6 o7,j+k=l.length∧s=⟨[.undef,.undef,.undef,.undef,.undef,.arr 8,v6,.arr 5,I l.length,I j,.undef,.undef],[.var ((CU h).map (AZ 1)),.var ((CU x).map (AZ 1)),.free,.arr 1 0 (Aq h.exts).length (ints (Aq h.exts)),.arr 1 0 (Aq x.exts).length (ints (Aq x.exts)),.arr 1 0 l.length (ints l),o6,o7,.arr 1 0 (a++((l.take j).filter p).map (fun t=>1000+t)).length (ints (a++((l.take j).filter p).map (fun t=>1000+t)))]⟩) ?_ (l.length) _ ⟨0,.undef,.free,.free,by simp,by simp⟩
 intro k s ⟨j,v6,o6,o7,hj,hs⟩
 subst hs
 by_cases hjn:j<l.length
 ·have hw:IntKind.i64.wrap ((j:Int)+1)=(j+1:Nat):=by rw[Ad (by omega) (by omega)];simp
  have hst:=Aol (p:=p) (a:=a) hjn
  have hfl:=Aq4 (p:=p) (a:=a) (l:=l) (j:=j)
  have hb1:((a++((l.take j).filter p).map (fun t=>1000+t)).length+1)*8≤1099511627776:=by omega
  have hpt:p l[j]=inB l[j]:=by rw[hpd]
  generalize a++((l.take j).filter p).map (fun t=>1000+t)=r at hst hfl hb1
  simp -implicitDefEqProofs [hjn]
  refine Aa (hI _ _ _) ?_
  by_cases h2:Q5 l[j] 0 255
  ·have h3:p l[j]=true:=by rw[hpt];simp[inB,h2]
   rw[if_pos h3]at hst
   have hw2:IntKind.i64.wrap (1000+l[j])=1000+l[j]:=Ad (by have:=h2.1;omega) (by have:=h2.2;omega)
   simp -implicitDefEqProofs [h2,hjn,hb1,hw2]
   have hsl:=congrArg List.length hst
   simp only[List.length_append,List.length_map,List.length_cons,List.length_nil]at hsl
   exact⟨k-1,by omega,j+1,by omega,by simp[hw],by omega,by rw[hst]⟩
  ·have h3:¬p l[j]=true:=by rw[hpt];simp[inB,h2]
   rw[if_neg h3,List.append_nil]at hst
   simp -implicitDefEqProofs [h2]
   have hsl:=congrArg List.length hst
   simp only[List.length_append,List.length_map]at hsl
   exact⟨k-1,by omega,j+1,by omega,by simp[hw],by omega,by rw[hst]⟩
 ·have e2:=Nh (p:=p) (xs:=l) (j:=j) (by omega)
  simp -implicitDefEqProofs [hjn,e2]
def FZ:AfW:=⟨false,0,[]⟩
def AdJ (h seen:Hello) (vs tags:List Int) (key:Int):AfW:=
 if(Bf vs tags seen).2&&(Ez h (Bf vs tags seen).1&&(!decide (Dq key [A8 h,AA (Bf vs tags seen).1] 1=0)&&
  decide (Dq key [A8 h,AA (Bf vs tags seen).1] 1=Dq key [A8 seen,AA (Bf vs tags seen).1] 1)))
 then⟨true,(Bf vs tags seen).1.version,Aq (Bf vs tags seen).1.exts⟩else FZ
theorem AsR (h:Hello):(A8 h).length≤47:=by
 unfold A8
 have:=LC h.exts
 split
 ·rename_i hc
  have:=Arj (AyC hc)
  simp only[List.length_append,List.length_cons];omega
 ·simp
theorem ApX (h:Hello) (a:RY):IA [A8 h,AA a]≤4194304:=by
 have h1:=AsR h
 have h2:=Ahv a
 simp[IA,Bw]
 omega
theorem Alo {vs tags:List Int} {h:Hello} (hh:hB h):Ub (Bf vs tags h).1.exts:=by
 unfold Bf
 split
 ·exact UN (UN hh.2 (fun t=>decide (t∈tags))) (fun t=> !Am t)
 ·exact Adb
def UZ (h:Hello) (path:List Gu) (vs tags:List Int) (key:Int):AfW:=if(A7 path h).2=true then AdJ h (A7 path h).1 vs tags key else FZ
abbrev LG (R:Rel):Prop:=∀(h:Hello) (path:List Gu) (vs tags:List Int) (key:Int),hB h→lnS Hw path→vs.length≤4194304→tags.length≤4194304→
 R [arg (CU h),.sl 1 4 path.length (path.flatMap CF),.sl 1 1 vs.length (ints vs),.sl 1 1 tags.length (ints tags),I key] [] (.agg (X7 (UZ h path vs tags key))) []
theorem As6 (D:Dn) (hP:FN (D Mj)) (hC:SY (D AaL)) (hFi:JV (D AgY)) (hHB:Iq (D Aei)) (hAB:GV (D Acv))
 (hF:QS (D Aj9)) (hT:KV (D Acl)):LG (Body D RL):=by
 intro h path vs tags key hh hb hv ht
 simp -implicitDefEqProofs
 refine Aa (hP path h hb hh) ?_
 have hr:=O7 (path:=path) hh
 unfold UZ
 generalize A7 path h=r at hr
 by_cases g1:r.2=true
 rotate_left
 ·simp -implicitDefEqProofs [g1,FZ]
 obtain⟨seen,ok⟩:=r
 obtain rfl:ok=true:=g1
 dsimp only at hr⊢
 simp -implicitDefEqProofs
 refine Aa (hC vs tags seen hv ht hr) ?_
 have ha:=Alo (vs:=vs) (tags:=tags) hr
 unfold AdJ
 generalize Bf vs tags seen=q at ha
 obtain⟨a,fine⟩:=q
 dsimp only at ha⊢
 by_cases g2:fine=true
 rotate_left
 ·simp -implicitDefEqProofs [g2,FZ]
 simp -implicitDefEqProofs [g2]
 refine Aa (hFi h a hh ha) ?_
 by_cases g3:Ez h a=true
 rotate_left
 ·simp -implicitDefEqProofs [g3,FZ]
 simp -implicitDefEqProofs [g3]
 refine Aa (hHB h hh) ?_
 simp -implicitDefEqProofs
 refine Aa (hAB a ha) ?_
 simp -implicitDefEqProofs
 have hf:=hF key [A8 h,AA a] 1 (ApX h a)
 simp -implicitDefEqProofs [Kh,Jh]at hf
 refine Aa (hf) ?_
 generalize Dq key [A8 h,AA a] 1=m
 by_cases g4:m=0
 ·simp -implicitDefEqProofs [g4,FZ]
 simp -implicitDefEqProofs [g4]
 refine Aa (hHB seen hr) ?_
 simp -implicitDefEqProofs [g4]
 refine Aa (hAB a ha) ?_
 simp -implicitDefEqProofs [g4]
 have hf2:=hF key [A8 seen,AA a] 1 (ApX seen a)
 simp -implicitDefEqProofs [Kh,Jh]at hf2
 refine Aa (hf2) ?_
 generalize Dq key [A8 seen,AA a] 1=m2
 by_cases g5:m=m2
 rotate_left
 ·simp -implicitDefEqProofs [g4,g5,FZ]
 subst g5
 simp -implicitDefEqProofs [g4]
 refine Aa (hT a.exts ha.1) ?_
 simp -implicitDefEqProofs [g4]
abbrev Aqh (R:Rel):Prop:=∀(h seen:Hello) (vs tags:List Int) (key:Int),hB h→hB seen→vs.length≤4194304→tags.length≤4194304→
 R [arg (CU h),arg (CU seen),.sl 1 1 vs.length (ints vs),.sl 1 1 tags.length (ints tags),I key,.sl 1 2 0 []] [] (.agg (X7 (AdJ h seen vs tags key))) []
theorem AC4 (D:Dn) (hC:SY (D ZX)) (hFi:JV (D AhW)) (hHB:Iq (D Ae6)) (hAB:GV (D Acw))
 (hF:QS (D XZ)) (hK:Wz (D Agc)) (hT:KV (D QR)):Aqh (Body D Wd):=by
 intro h seen vs tags key hh hr hv ht
 simp -implicitDefEqProofs
 refine Aa (hC vs tags seen hv ht hr) ?_
 have ha:=Alo (vs:=vs) (tags:=tags) hr
 unfold AdJ
 generalize Bf vs tags seen=q at ha
 obtain⟨a,fine⟩:=q
 dsimp only at ha⊢
 have e:(!decide (Dq key [A8 h,AA a] 1=0)&&decide (Dq key [A8 h,AA a] 1=Dq key [A8 seen,AA a] 1))=
  Q9 key [A8 h,AA a] 1 (Dq key [A8 seen,AA a] 1):=by
  unfold Q9
  by_cases e1:Dq key [A8 h,AA a] 1=Dq key [A8 seen,AA a] 1
  ·rw[e1]
  ·have e2:¬Dq key [A8 seen,AA a] 1=Dq key [A8 h,AA a] 1:=fun h=>e1 h.symm
   simp[e1,e2]
 rw[e]
 by_cases g2:fine=true
 rotate_left
 ·simp -implicitDefEqProofs [g2,FZ]
 simp -implicitDefEqProofs [g2]
 refine AAa ?_
 simp -implicitDefEqProofs
 refine Aa (hHB seen hr) ?_
 simp -implicitDefEqProofs
 refine Aa (hAB a ha) ?_
 simp -implicitDefEqProofs
 have hf2:=hF key [A8 seen,AA a] 1 (ApX seen a)
 simp -implicitDefEqProofs [Kh,Jh]at hf2
 refine Aa (hf2) ?_
 generalize Dq key [A8 seen,AA a] 1=m2
 simp -implicitDefEqProofs
 refine Aa (hFi h a hh ha) ?_
 by_cases g3:Ez h a=true
 rotate_left
 ·simp -implicitDefEqProofs [g3,FZ]
 simp -implicitDefEqProofs [g3]
 refine Aa (hHB h hh) ?_
 simp -implicitDefEqProofs
 refine Aa (hAB a ha) ?_
 simp -implicitDefEqProofs
 have hk:=hK key [A8 h,AA a] 1 m2 (ApX h a)
 simp -implicitDefEqProofs [Kh,Jh]at hk
 refine Aa (hk) ?_
 generalize Q9 key [A8 h,AA a] 1 m2=c
 by_cases g5:c=true
 rotate_left
 ·simp -implicitDefEqProofs [g5,FZ]
 simp -implicitDefEqProofs [g5]
 refine Aa (hT a.exts ha.1) ?_
 simp -implicitDefEqProofs
theorem Aq5 (D:Dn) (hP:FN (D L9)) (hD:Aqh (D Arl)):LG (Body D Si):=by
 intro h path vs tags key hh hb hv ht
 simp -implicitDefEqProofs
 refine Aa (hP path h hb hh) ?_
 have hr:=O7 (path:=path) hh
 unfold UZ
 generalize A7 path h=r at hr
 by_cases g1:r.2=true
 rotate_left
 ·simp -implicitDefEqProofs [g1,FZ]
 simp -implicitDefEqProofs [g1]
 refine Aa (hD h r.1 vs tags key hh hr hv ht) ?_
 simp -implicitDefEqProofs
def Atd (h:Hello) (path:List Gu) (vs tags:List Int) (key:Int):Cw:=
 if(Cr h path).2.2=true then⟨UZ (Cr h path).1 path vs tags key,(Cr h path).2.1,VP h (Cr h path).1⟩else⟨FZ,(Cr h path).2.1,[]⟩
abbrev AfO (R:Rel):Prop:=∀(h:Hello) (path:List Gu) (vs tags:List Int) (key:Int),hB h→lnS Hw path→vs.length≤4194304→tags.length≤4194304→
 R [arg (CU h),.sl 1 4 path.length (path.flatMap CF),.sl 1 1 vs.length (ints vs),.sl 1 1 tags.length (ints tags),I key] [] (.agg (AP (Atd h path vs tags key))) []
theorem AD7 (D:Dn) (hH:LM (D AjC)) (hO:LG (D Air)) (hG:OY (D Amx)):AfO (Body D AaP):=by
 intro h path vs tags key hh hb hv ht
 simp -implicitDefEqProofs
 refine Aa (hH h path hh hb) ?_
 have hr:=Av6 (path:=path) hh
 unfold Atd
 generalize Cr h path=r at hr
 obtain⟨x,n,ok⟩:=r
 dsimp only at hr⊢
 by_cases g1:ok=true
 rotate_left
 ·simp -implicitDefEqProofs [g1,FZ]
 simp -implicitDefEqProofs [g1]
 refine Aa (hO x path vs tags key hr hb hv ht) ?_
 simp -implicitDefEqProofs
 refine Aa (hG h x hh hr) ?_
 simp -implicitDefEqProofs [g1]
theorem AEo (D:Dn) (hH:LM (D Akx)) (hO:LG (D AiI)) (hG:OY (D AlL)):AfO (Body D Aav):=by
 intro h path vs tags key hh hb hv ht
 simp -implicitDefEqProofs
 refine Aa (hH h path hh hb) ?_
 have hr:=Av6 (path:=path) hh
 unfold Atd
 generalize Cr h path=r at hr
 obtain⟨x,n,ok⟩:=r
 dsimp only at hr⊢
 by_cases g1:ok=true
 rotate_left
 ·simp -implicitDefEqProofs [g1,FZ]
 simp -implicitDefEqProofs [g1]
 refine Aa (hO x path vs tags key hr hb hv ht) ?_
 simp -implicitDefEqProofs
 refine Aa (hG h x hh hr) ?_
 simp -implicitDefEqProofs [g1]
end Go.Eng.T
namespace Go.Eng.T
set_option maxRecDepth 20000
set_option maxHeartbeats 1000000
theorem AsO {l:List Ext} {k:Nat} (h:k≤l.length):part (Ko (l.flatMap Br) 2 0 k) 2 k (l.length-k)=(l.drop k).flatMap Br:=by
 have h0:(l.flatMap Br).length=l.length*2:=Rb l
 have e1:l.flatMap Br=(l.take k).flatMap Br++(l.drop k).flatMap Br:=by rw[←List.flatMap_append,List.take_append_drop]
 have h1:((l.take k).flatMap Br).length=k*2:=by rw[Rb];simp;omega
 have h2:((l.drop k).flatMap Br).length=(l.length-k)*2:=by rw[Rb];simp
 unfold part Ko
 rw[e1]
 simp only[Nat.zero_mul,List.take_zero,List.nil_append,Nat.zero_add]
 rw[List.drop_left' h1,List.drop_left' (by simp),List.take_of_length_le (by omega)]
theorem AyH {l:List Ext} {k:Nat} (h:k≤l.length):part (l.flatMap Br) 2 0 k=(l.take k).flatMap Br:=by
 have e1:l.flatMap Br=(l.take k).flatMap Br++(l.drop k).flatMap Br:=by rw[←List.flatMap_append,List.take_append_drop]
 have h1:((l.take k).flatMap Br).length=k*2:=by rw[Rb];simp;omega
 unfold part
 rw[e1,Nat.zero_mul,List.drop_zero,List.take_left' h1]
def AjE (seed:Int):List Int:=List.replicate (pick seed 2 3).toNat (pick seed 3 256)
def Amo (l:List Ext) (seed:Int):Nat:=(pick seed 1 (l.length+1)).toNat
def Dt (l:List Ext) (seed:Int):List Ext:=
 if EC l&&(decide (l.length<6)&& !decide (NM seed∈Aq l))then l.take (Amo l seed)++⟨NM seed,AjE seed⟩::l.drop (Amo l seed)else l
theorem Av2 (l:List Ext) (seed:Int) (h:l.length≤6):Amo l seed≤l.length:=by
 have:=SX seed 1 (n:=l.length+1) ⟨by omega,by omega⟩
 unfold Amo;omega
theorem AsQ (seed:Int):(AjE seed).length≤2:=by
 have:=SX seed 2 (n:=3) ⟨by omega,by omega⟩
 unfold AjE;simp;omega
abbrev Ju (R:Rel):Prop:=∀(l:List Ext) (seed:Int),Ub l→R [.sl 1 2 l.length (l.flatMap Br),I seed] [] (.sl 0 2 (Dt l seed).length ((Dt l seed).flatMap Br)) []
theorem Aoz (D:Dn) (hG:JS (D Agp)) (hC:OG (D ZQ)) (hA:FV (D KC)) (hX:Qn (D Tg)) (hP:ZM (D Acf)):Ju (Body D PW):=by
 intro l seed hl
 have hll:=hl.1
 simp -implicitDefEqProofs
 refine Aa (hG seed) ?_
 obtain⟨t,ht⟩:∃t,t=NM seed:=⟨_,rfl⟩
 rw[←ht]
 simp -implicitDefEqProofs
 refine Aa (hC l hl) ?_
 simp -implicitDefEqProofs
 refine Aa (hA l hl) ?_
 by_cases h1:EC l=true
 rotate_left
 ·simp -implicitDefEqProofs [h1,Dt]
 by_cases h2:l.length<6
 rotate_left
 ·have h2':(6:Int)≤l.length:=by omega
  simp -implicitDefEqProofs [h1,h2,h2',Dt]
 have h2':¬(6:Int)≤l.length:=by omega
 simp -implicitDefEqProofs [h1,h2']
 refine Aa (hX l t (by unfold maxLen;omega)) ?_
 by_cases h3:t∈Aq l
 ·have h3':0≤Js l t:=by
   by_cases h:Js l t<0
   ·rw[LW]at h;exact absurd h3 h
   ·omega
  simp -implicitDefEqProofs [h1,h2,h3',h3,Dt,←ht]
 have h3':¬0≤Js l t:=by
  have:Js l t<0:=by rw[LW];exact h3
  omega
 have e:Dt l seed=l.take (Amo l seed)++⟨t,AjE seed⟩::l.drop (Amo l seed):=by
  unfold Dt
  rw[if_pos]
  ·rw[ht]
  ·simp[h1,h2,←ht,h3]
 have hgp:=Av2 l seed (by omega)
 have hgb:=AsQ seed
 rw[e]
 simp -implicitDefEqProofs [h3']
 refine Aa (hP seed 2 3) ?_
 have hp2:=SX seed 2 (n:=3) ⟨by omega,by omega⟩
 have eb:AjE seed=List.replicate (pick seed 2 3).toNat (pick seed 3 256):=rfl
 obtain⟨n,hn⟩:∃n:Nat,pick seed 2 3=n:=⟨(pick seed 2 3).toNat,by omega⟩
 rw[hn]at eb hp2⊢
 rw[Int.toNat_natCast]at eb
 rw[eb]at hgb⊢
 generalize hv:pick seed 3 256=v at *
 simp -implicitDefEqProofs
 refine Ae (fun k s=>∃j o2 o3,j+k=n∧s=⟨[.sl 1 2 l.length (l.flatMap Br),I seed,.undef,.undef,.arr 0,.ptr 1 0,I k,.undef,.undef,.undef],[.arr 2 0 l.length (l.flatMap Br),.var [I t,.arr 9],o2,o3,.free,.free,.free,.free,.free,.arr 1 0 j (ints (List.replicate j v))]⟩) ?_ (n) _ ⟨0,.free,.free,by simp,by simp[ints]⟩
 intro k s ⟨j,o2,o3,hj,hs⟩
 subst hs
 by_cases hjn:j<n
 ·have hk0:0<k:=by omega
  have hb1:(j+1)*8≤1099511627776:=by omega
  have hwk:IntKind.i64.wrap ((k:Int)-1)=(k-1:Nat):=by rw[Ad (by omega) (by omega)];omega
  simp -implicitDefEqProofs [hk0]
  refine Aa (hP seed 3 256) ?_
  rw[hv]
  simp -implicitDefEqProofs [hb1]
  exact⟨k-1,by omega,j+1,by omega,by simp[hwk],by simp[ints,List.replicate_succ']⟩
 have hk0:k=0:=by omega
 obtain rfl:j=n:=by omega
 subst hk0
 have hwl:IntKind.i64.wrap ((l.length:Int)+1)=(l.length:Int)+1:=Ad (by omega) (by omega)
 simp -implicitDefEqProofs [hwl]
 refine Aa (hP seed 1 (l.length+1)) ?_
 have hp1:=SX seed 1 (n:=(l.length:Int)+1) ⟨by omega,by omega⟩
 have eg:Amo l seed=(pick seed 1 (l.length+1)).toNat:=rfl
 generalize pick seed 1 (l.length+1)=k1 at hp1 eg
 obtain⟨kk,rfl⟩:∃kk:Nat,k1=kk:=⟨k1.toNat,by omega⟩
 rw[Int.toNat_natCast]at eg
 rw[eg]at hgp⊢
 have hk1:(kk:Int)≤l.length:=by omega
 have hb2:kk*32≤1099511627776:=by omega
 have hb3:(kk+1)*32≤1099511627776:=by omega
 have hb4:(kk+1+(l.length-kk))*32≤1099511627776:=by omega
 simp -implicitDefEqProofs [hk1,hgp,hb2,hb3,hb4,AsO hgp,AyH hgp]
 all_goals omega
theorem AuP {l:List Ext} (hl:Ub l) (h6:l.length≤4194303) (seed:Int):Ub (Dt l seed):=by
 unfold Dt
 split
 ·refine⟨?_,?_⟩
  ·simp;omega
  ·intro x hx
   rcases List.mem_append.1 hx with h | h
   ·exact hl.2 x (List.mem_of_mem_take h)
   ·rcases List.mem_cons.1 h with h | h
    ·subst h;have:=AsQ seed;dsimp only;omega
    ·exact hl.2 x (List.mem_of_mem_drop h)
 ·exact hl
def bare (ts:List Int):List Ext:=ts.map fun t=>⟨t,[]⟩
theorem M0 (ts:List Int):(bare ts).length=ts.length:=by simp[bare]
theorem Aim {ts:List Int} (h:ts.length≤4194304):Ub (bare ts):=⟨by rw[M0];exact h,fun x hx=>by
 obtain⟨t,_,rfl⟩:=List.mem_map.1 hx;simp⟩
theorem AnQ {ts:List Int} {j:Nat} (h:j<ts.length):(bare (ts.take j)).flatMap Br++ [.sc (.int .i64 ts[j]),.sl 0 1 0 []]=(bare (ts.take (j+1))).flatMap Br:=by
 have e:ts.take (j+1)=ts.take j++ [ts[j]]:=by simp
 rw[e]
 unfold bare
 rw[List.map_append,List.flatMap_append]
 rfl
def He (e:AL) (seed:Int):Hello:=if Az e=true then⟨e.versions,Dt (bare e.tags) seed⟩else AQ
abbrev O9 (R:Rel):Prop:=∀(e:AL) (seed:Int),Ac e≤4194304→R [arg (Ak e),I seed] [] (.agg (CU (He e seed))) []
theorem Vx {e:AL} (h:Az e=true):e.tags.length≤5:=by
 unfold Az at h
 simp only[Bool.and_eq_true,decide_eq_true_eq]at h
 exact h.2.1
theorem AkW {e:AL} (hsz:Ac e≤4194304) (seed:Int):hB (He e seed):=by
 unfold He
 split
 ·rename_i h
  have:=Vx h
  exact⟨U1 hsz,AuP (Aim (by omega)) (by rw[M0];omega) seed⟩
 ·exact AiP
theorem Aub (D:Dn) (hE:ET (D N9)) (hG:Ju (D Agn)):O9 (Body D Uu):=by
 intro e seed hsz
 have hl:=XR hsz
 have hv:=U1 hsz
 simp -implicitDefEqProofs
 refine Aa (hE e hl) ?_
 by_cases h1:Az e=true
 rotate_left
 ·simp -implicitDefEqProofs [h1,He,AQ]
 have h5:=Vx h1
 have he:He e seed=⟨e.versions,Dt (bare e.tags) seed⟩:=by unfold He;rw[if_pos h1]
 rw[he]
 have hb2:e.versions.length*8≤1099511627776:=by omega
 simp -implicitDefEqProofs [h1]
 refine Ae (fun k s=>∃j o3 o4,j+k=e.tags.length∧s=⟨[.undef,I seed,.ptr 0 0,.ptr 1 0,.arr 8,I j,.undef,.undef],[.var ((Ak e).map (AZ 1)),.var [.nil 1,.nil 2],.free,o3,o4,.free,.free,.free,.arr 2 0 j ((bare (e.tags.take j)).flatMap Br)]⟩) ?_ (e.tags.length) _ ⟨0,.free,.free,by simp,by simp[bare]⟩
 intro k s ⟨j,o3,o4,hj,hs⟩
 subst hs
 by_cases hjn:j<e.tags.length
 ·have hw:IntKind.i64.wrap ((j:Int)+1)=(j+1:Nat):=by rw[Ad (by omega) (by omega)];simp
  have hst:=AnQ hjn
  have hb1:(j+1)*32≤1099511627776:=by omega
  have hlen:(bare (e.tags.take j)).length=j:=by rw[M0];simp;omega
  have hlen2:(bare (e.tags.take (j+1))).length=j+1:=by rw[M0];simp;omega
  simp -implicitDefEqProofs [hjn,hb1]
  exact⟨k-1,by omega,j+1,by omega,by simp[hw],by rw[←hst];exact⟨rfl,rfl⟩⟩
 have e2:e.tags.take j=e.tags:=List.take_of_length_le (by omega)
 obtain rfl:j=e.tags.length:=by omega
 simp -implicitDefEqProofs [hjn,e2,hb2]
 have hq:=hG (bare e.tags) seed (Aim (by omega))
 rw[M0]at hq
 refine Aa (hq) ?_
 simp -implicitDefEqProofs
theorem AuA (D:Dn) (hE:ET (D Oc)) (hG:Ju (D AhA)):O9 (Body D TL):=by
 intro e seed hsz
 have hl:=XR hsz
 have hv:=U1 hsz
 simp -implicitDefEqProofs
 refine Aa (hE e hl) ?_
 by_cases h1:Az e=true
 rotate_left
 ·simp -implicitDefEqProofs [h1,He,AQ]
 have h5:=Vx h1
 have he:He e seed=⟨e.versions,Dt (bare e.tags) seed⟩:=by unfold He;rw[if_pos h1]
 rw[he]
 have hb2:e.versions.length*8≤1099511627776:=by omega
 simp -implicitDefEqProofs [h1]
 refine Ae (fun k s=>∃j o3 o4,j+k=e.tags.length∧s=⟨[.undef,I seed,.ptr 0 0,.ptr 1 0,.arr 8,.undef,.undef,.sl 1 1 e.tags.length (ints e.tags),I e.tags.length,I j,.undef],[.var ((Ak e).map (AZ 1)),.var [.nil 1,.nil 2],.free,o3,o4,.free,.free,.free,.arr 2 0 j ((bare (e.tags.take j)).flatMap Br)]⟩) ?_ (e.tags.length) _ ⟨0,.free,.free,by simp,by simp[bare]⟩
 intro k s ⟨j,o3,o4,hj,hs⟩
 subst hs
 by_cases hjn:j<e.tags.length
 ·have hw:IntKind.i64.wrap ((j:Int)+1)=(j+1:Nat):=by rw[Ad (by omega) (by omega)];simp
  have hst:=AnQ hjn
  have hb1:(j+1)*32≤1099511627776:=by omega
  have hlen:(bare (e.tags.take j)).length=j:=by rw[M0];simp;omega
  have hlen2:(bare (e.tags.take (j+1))).length=j+1:=by rw[M0];simp;omega
  simp -implicitDefEqProofs [hjn,hb1]
  exact⟨k-1,by omega,j+1,by omega,by simp[hw],by rw[←hst];exact⟨rfl,rfl⟩⟩
 have e2:e.tags.take j=e.tags:=List.take_of_length_le (by omega)
 obtain rfl:j=e.tags.length:=by omega
 simp -implicitDefEqProofs [hjn,e2,hb2]
 have hq:=hG (bare e.tags) seed (Aim (by omega))
 rw[M0]at hq
 refine Aa (hq) ?_
 simp -implicitDefEqProofs
def Mw:Cw:=⟨FZ,0,[]⟩
def KX (e:AL) (vs tags:List Int) (key seed:Int):Cw:=if Az e=true then Atd (He e seed) e.path vs tags key else Mw
abbrev OJ (R:Rel):Prop:=∀(e:AL) (vs tags:List Int) (key seed:Int),Ac e≤4194304→vs.length≤4194304→tags.length≤4194304→
 R [arg (Ak e),.sl 1 1 vs.length (ints vs),.sl 1 1 tags.length (ints tags),I key,I seed] [] (.agg (AP (KX e vs tags key seed))) []
theorem Au6 (D:Dn) (hE:ET (D N9)) (hH:O9 (D AlE)) (hD:AfO (D Auw)):OJ (Body D TP):=by
 intro e vs tags key seed hsz hv ht
 have hl:=XR hsz
 simp -implicitDefEqProofs
 refine Aa (hE e hl) ?_
 by_cases h1:Az e=true
 rotate_left
 ·simp -implicitDefEqProofs [h1,KX,Mw,FZ]
 simp -implicitDefEqProofs [h1]
 refine Aa (hH e seed hsz) ?_
 have hh:=AkW hsz seed
 have he:KX e vs tags key seed=Atd (He e seed) e.path vs tags key:=by unfold KX;rw[if_pos h1]
 rw[he]
 generalize He e seed=h at hh
 simp -implicitDefEqProofs
 refine Aa (hD h e.path vs tags key hh hl.2.2 hv ht) ?_
 simp -implicitDefEqProofs
theorem Avg (D:Dn) (hE:ET (D Oc)) (hH:O9 (D AlX)) (hD:AfO (D Aui)):OJ (Body D TB):=by
 intro e vs tags key seed hsz hv ht
 have hl:=XR hsz
 simp -implicitDefEqProofs
 refine Aa (hE e hl) ?_
 by_cases h1:Az e=true
 rotate_left
 ·simp -implicitDefEqProofs [h1,KX,Mw,FZ]
 simp -implicitDefEqProofs [h1]
 refine Aa (hH e seed hsz) ?_
 have hh:=AkW hsz seed
 have he:KX e vs tags key seed=Atd (He e seed) e.path vs tags key:=by unfold KX;rw[if_pos h1]
 rw[he]
 generalize He e seed=h at hh
 simp -implicitDefEqProofs
 refine Aa (hD h e.path vs tags key hh hl.2.2 hv ht) ?_
 simp -implicitDefEqProofs
def clip (n:Int):Int:=max (-100000) (min 100000 n)
abbrev AvY (R:Rel):Prop:=∀n:Int,R [I n] [] (I (clip n)) []
theorem Ayy (D:Dn) (hM:Ath (D AnS)) (hN:AvR (D Axo)):AvY (Body D Un):=by
 intro n
 simp -implicitDefEqProofs
 refine Aa (hN _ _) ?_
 simp -implicitDefEqProofs
 refine Aa (hM _ _) ?_
 simp -implicitDefEqProofs [clip]
def MQ (w:World) (i:Int):Cw:=if SH i 0 ((w.ends.length:Int)-1)then(match w.ends[i.toNat]? with | some e=>KX e w.server w.tags w.key (16*clip w.now+i) | none=>Mw)else Mw
abbrev Te (R:Rel):Prop:=∀(w:World) (i:Int),Ay w≤4194304→R [arg (EF w),I i] [] (.agg (AP (MQ w i))) []
theorem Awl (n:Int):-100000≤clip n∧clip n≤100000:=by unfold clip;omega
theorem Axj (D:Dn) (hI:SG (D CB)) (hC:AvY (D AmQ)) (hB:OJ (D Am6)):Te (Body D Vk):=by
 intro w i hsz
 have he:=JQ hsz
 have hw:IntKind.i64.wrap ((w.ends.length:Int)-1)=(w.ends.length:Int)-1:=Ad (by omega) (by omega)
 simp -implicitDefEqProofs [hw]
 refine Aa (hI _ _ _) ?_
 by_cases h1:SH i 0 ((w.ends.length:Int)-1)
 rotate_left
 ·simp -implicitDefEqProofs [h1,MQ,Mw,FZ]
 obtain⟨n,rfl⟩:∃n:Nat,i=n:=⟨i.toNat,by have:=h1.1;omega⟩
 have hn:n<w.ends.length:=by have:=h1.2;omega
 have hb:=NZ hsz
 have hes:=Q6 hsz hn
 have e:MQ w n=KX w.ends[n] w.server w.tags w.key (16*clip w.now+n):=by unfold MQ;rw[if_pos h1];simp[hn]
 rw[e]
 simp -implicitDefEqProofs [h1,hn]
 refine Aa (hC w.now) ?_
 have hcl:=Awl w.now
 generalize clip w.now=c at hcl
 have hw1:IntKind.i64.wrap (16*c)=16*c:=Ad (by omega) (by omega)
 have hw2:IntKind.i64.wrap (16*c+n)=16*c+n:=Ad (by omega) (by omega)
 simp -implicitDefEqProofs [hw1,hw2]
 refine Aa (hB w.ends[n] w.server w.tags w.key _ hes hb.1 hb.2.1) ?_
 simp -implicitDefEqProofs
theorem AxZ (D:Dn) (hI:Aid (D Aph)) (hB:OJ (D AlH)):Te (Body D Vu):=by
 intro w i hsz
 have he:=JQ hsz
 simp -implicitDefEqProofs
 refine Aa (hI w i he) ?_
 by_cases h1:SH i 0 ((w.ends.length:Int)-1)
 rotate_left
 ·simp -implicitDefEqProofs [h1,MQ,Mw,FZ]
 obtain⟨n,rfl⟩:∃n:Nat,i=n:=⟨i.toNat,by have:=h1.1;omega⟩
 have hn:n<w.ends.length:=by have:=h1.2;omega
 have hb:=NZ hsz
 have hes:=Q6 hsz hn
 have e:MQ w n=KX w.ends[n] w.server w.tags w.key (16*clip w.now+n):=by unfold MQ;rw[if_pos h1];simp[hn]
 rw[e]
 simp -implicitDefEqProofs [h1,hn]
 have hc:(if(if 100000<w.now then 100000 else w.now)< -100000 then -100000 else if 100000<w.now then 100000 else w.now)=clip w.now:=by
  unfold clip
  split<;>split<;>omega
 rw[hc]
 have hcl:=Awl w.now
 generalize clip w.now=c at hcl
 have hw1:IntKind.i64.wrap (16*c)=16*c:=Ad (by omega) (by omega)
 have hw2:IntKind.i64.wrap (16*c+n)=16*c+n:=Ad (by omega) (by omega)
 rw[hw1,hw2]
 refine Aa (hB w.ends[n] w.server w.tags w.key _ hes hb.1 hb.2.1) ?_
 simp -implicitDefEqProofs
end Go.Eng.T
namespace Go.Eng.T
set_option maxRecDepth 20000
set_option maxHeartbeats 4000000
end Go.Eng.T
namespace Go.Eng.T
set_option maxRecDepth 20000
set_option maxHeartbeats 2000000
theorem Aii (p:Int→Bool) (l:List Ext):(kept p l).length≤l.length:=List.length_filter_le _ _
theorem AuB (b:Gu) (h:Hello):(BS b h).1.exts.length≤h.exts.length:=by
 unfold BS
 split
 ·exact Aii _ _
 ·simp[AQ]
theorem AnR:∀(path:List Gu) (h:Hello),(Iu path h).1.exts.length≤h.exts.length
 | [],h=>by simp[Iu]
 | b::r,h=>by
  have h1:=AuB b h
  have h2:=AnR r (BS b h).1
  unfold Iu
  split
  ·omega
  ·simp[AQ]
theorem ArC (path:List Gu) (h:Hello):(A7 path h).1.exts.length≤h.exts.length:=by
 unfold A7
 split
 ·exact AnR _ _
 ·simp[AQ]
theorem AEd (h:Hello) (a b:List Int):(Fh h a b).1.exts.length≤h.exts.length:=by
 unfold Fh
 split
 ·exact Aii (fun t=> !decide (t∈b)) h.exts
 ·simp[AQ]
theorem ADa (h:Hello) (path:List Gu):(Cr h path).1.exts.length≤h.exts.length:=by
 unfold Cr fallback
 have:=AEd h (Bj path h.versions) (Ff path (leftOf h.versions (Bj path h.versions)) h.exts)
 repeat' split
 all_goals simp[AQ]<;>omega
theorem AwR (h seen:Hello) (vs tags:List Int) (key:Int):(AdJ h seen vs tags key).tags.length≤seen.exts.length:=by
 unfold AdJ
 split
 ·have:(Bf vs tags seen).1.exts.length≤seen.exts.length:=by
   unfold Bf
   split
   ·exact Nat.le_trans (Aii (fun t=> !Am t) (KT seen.exts tags)) (Aii (fun t=>decide (t∈tags)) seen.exts)
   ·simp
  simpa[Aq]using this
 ·simp[FZ]
theorem AD2 (h:Hello) (path:List Gu) (vs tags:List Int) (key:Int):Al (Atd h path vs tags key)≤2*h.exts.length+h.versions.length:=by
 unfold Atd
 split
 ·have h1:=ADa h path
  have h2:=ArC path (Cr h path).1
  have h3:(UZ (Cr h path).1 path vs tags key).tags.length≤h.exts.length:=by
   unfold UZ
   split
   ·have:=AwR (Cr h path).1 (A7 path (Cr h path).1).1 vs tags key;omega
   ·simp[FZ]
  have h4:(VP h (Cr h path).1).length≤h.exts.length+h.versions.length:=by
   unfold VP leftOf
   have a1:=List.length_filter_le (fun v=> !decide (v∈(Cr h path).1.versions)) h.versions
   have a2:=List.length_filter_le (AfT (Aq (Cr h path).1.exts)) (Aq h.exts)
   have a3:(Aq h.exts).length=h.exts.length:=Nb _
   simp only[List.length_append,List.length_map]
   omega
  simp only[Al,E9]
  omega
 ·simp[Al,E9,FZ]
theorem AyM (l:List Ext) (seed:Int) (h:l.length≤5):(Dt l seed).length≤6:=by
 unfold Dt
 split
 ·simp;omega
 ·omega
theorem AvA (e:AL) (vs tags:List Int) (key seed:Int):Al (KX e vs tags key seed)≤21:=by
 unfold KX
 split
 ·rename_i h1
  have h5:=Vx h1
  have e1:He e seed=⟨e.versions,Dt (bare e.tags) seed⟩:=by unfold He;rw[if_pos h1]
  have h2:=AD2 (He e seed) e.path vs tags key
  have h3:=AyM (bare e.tags) seed (by rw[M0];exact h5)
  have h4:e.versions.length≤9:=by
   unfold Az at h1
   simp only[Bool.and_eq_true,decide_eq_true_eq]at h1
   exact Arj h1.1
  rw[e1]at h2⊢
  dsimp only at h2⊢
  omega
 ·simp[Al,E9,Mw,FZ]
theorem Aym (w:World) (i:Int):Al (MQ w i)≤21:=by
 unfold MQ
 repeat' split
 all_goals first | exact AvA _ _ _ _ _ | simp[Al,E9,Mw,FZ]
def Awc (w:World) (i:Int) (d:Cw) (on:Bool):World:=
 {w with log:=w.log++ [⟨i,w.now,on,d⟩],stage:=(if on=true then w.stage++ [d]else w.stage),hurt:=(if(on&&Pe w.rollout.version d)=true then IntKind.i64.wrap (w.hurt+1)else w.hurt)}
def AwO (w:World) (i:Int):Bool:=decide (SH i 0 ((w.ends.length:Int)-1))&&(decide (w.log.length<60)&&decide (w.stage.length<60))
def U8 (w:World) (i:Int):World×Bool:=if AwO w i=true then(Awc w i (MQ w i) (ADC w i),true)else(w,false)
theorem AqA (w:World) (i:Int):Ay (U8 w i).1+(60-(U8 w i).1.log.length)*50≤Ay w+(60-w.log.length)*50∧(U8 w i).1.ends=w.ends∧(U8 w i).1.rollout=w.rollout:=by
 unfold U8
 split
 ·rename_i h
  unfold AwO at h
  simp only[Bool.and_eq_true,decide_eq_true_eq]at h
  have hd:=Aym w i
  refine⟨?_,rfl,rfl⟩
  unfold Awc
  simp only[Ay,Bw,List.length_append,List.length_cons,List.length_nil,List.map_append,List.map_cons,List.map_nil,List.sum_append,List.sum_cons,List.sum_nil,Av]
  split
  ·simp only[List.length_append,List.length_cons,List.length_nil,List.map_append,List.map_cons,List.map_nil,List.sum_append,List.sum_cons,List.sum_nil];omega
  ·omega
 ·exact⟨Nat.le_refl _,rfl,rfl⟩
def Awq (w:World):Nat→World
 | 0=>w
 | n+1=>(U8 (Awq w n) n).1
theorem AxU (w:World):∀n,Ay (Awq w n)+(60-(Awq w n).log.length)*50≤Ay w+(60-w.log.length)*50
 | 0=>Nat.le_refl _
 | n+1=>Nat.le_trans (AqA (Awq w n) n).1 (AxU w n)
end Go.Eng.T
namespace Go.Eng.T
set_option maxRecDepth 20000
set_option maxHeartbeats 2000000
def apart (w:World) (j:Nat):Bool:=match w.ends[j]? with
 | some e=>ES e.path&&(!(MQ w j).deal.ok|| !decide ((MQ w j).deal.version=BJ w.server e.versions))
 | none=>false
def Iw (w:World):Bool:=Ii w.server (GY w)&&Nl (fun j=> !apart w j) w.ends.length
theorem ApS {w:World} {j:Nat} (h:j<w.ends.length) (ha:apart w j=true):Iw w=false:=by
 unfold Iw
 rw[AkG (q:=fun j=> !apart w j) h (by simp[ha])]
 simp
abbrev Ip (R:Rel):Prop:=∀w:World,Ay w≤4194304→R [arg (EF w)] [] (B (Iw w)) []
theorem Aml (D:Dn) (hD:Te (D Ap3)) (hK:Hg (D Ab4)) (hB:EX (D NC)) (hL:Kz (D Zu)) (hA:Ja (D XD)):Ip (Body D Oq):=by
 intro w hsz
 have he:=JQ hsz
 have hws:=NZ hsz
 simp -implicitDefEqProofs
 refine Ae (fun k s=>∃j o1 o2 o3 o4,j+k=w.ends.length∧Nl (fun j=> !apart w j) j=true∧s=⟨[.undef,.ptr 0 0,.undef,I j,.undef,.undef,.undef,.undef],[.var ((EF w).map (AZ 1)),o1,o2,o3,o4,.free]⟩) ?_ (w.ends.length) _ ⟨0,.free,.free,.free,.free,by simp,by simp,by simp⟩
 intro k s ⟨j,o1,o2,o3,o4,hj,hp,hs⟩
 subst hs
 by_cases hjn:j<w.ends.length
 ·have hw:IntKind.i64.wrap ((j:Int)+1)=(j+1:Nat):=by rw[Ad (by omega) (by omega)];simp
  have hst:=IC (fun j=> !apart w j) j
  have hes:=Q6 hsz hjn
  simp -implicitDefEqProofs [hjn]
  refine Aa (hD w j hsz) ?_
  generalize hd:MQ w j=d
  have hap:apart w j=(ES w.ends[j].path&&(!d.deal.ok|| !decide (d.deal.version=BJ w.server w.ends[j].versions))):=by unfold apart;simp[hjn,hd]
  simp -implicitDefEqProofs
  refine Aa (hK w.ends[j].path (XR hes).2.2) ?_
  by_cases g1:ES w.ends[j].path=true
  rotate_left
  ·have ha:apart w j=false:=by rw[hap];simp[g1]
   rw[ha]at hst
   simp -implicitDefEqProofs [g1,hjn]
   exact⟨k-1,by omega,j+1,by omega,by rw[hst,hp];rfl,by simp[hw]⟩
  by_cases g2:d.deal.ok=true
  rotate_left
  ·have ha:apart w j=true:=by rw[hap];simp[g1,g2]
   simp -implicitDefEqProofs [g1,g2,hjn,ApS hjn ha]
  simp -implicitDefEqProofs [g1,g2,hjn]
  refine Aa (hB w.server w.ends[j].versions hws.1 (U1 hes)) ?_
  generalize BJ w.server w.ends[j].versions=b at hap
  by_cases g3:d.deal.version=b
  ·have ha:apart w j=false:=by rw[hap];simp[g1,g2,g3]
   rw[ha]at hst
   simp -implicitDefEqProofs [g1,g2,g3,hjn]
   exact⟨k-1,by omega,j+1,by omega,by rw[hst,hp];rfl,by simp[hw]⟩
  ·have ha:apart w j=true:=by rw[hap];simp[g1,g2,g3]
   simp -implicitDefEqProofs [g1,g2,g3,hjn,ApS hjn ha]
 ·obtain rfl:j=w.ends.length:=by omega
  simp -implicitDefEqProofs
  refine Aa (hL w hsz) ?_
  simp -implicitDefEqProofs
  refine Aa (hA w.server (GY w) hws.1 (AcH hsz)) ?_
  simp -implicitDefEqProofs [Iw,hp]
theorem Anq (D:Dn) (hD:Te (D AoK)) (hK:Hg (D Acp)) (hB:EX (D Ou)) (hL:Kz (D ZI)) (hA:Ja (D XL)):Ip (Body D NF):=by
 intro w hsz
 have he:=JQ hsz
 have hws:=NZ hsz
 simp -implicitDefEqProofs
 refine Aa (hL w hsz) ?_
 simp -implicitDefEqProofs
 refine Aa (hA w.server (GY w) hws.1 (AcH hsz)) ?_
 by_cases g0:Ii w.server (GY w)=true
 rotate_left
 ·simp -implicitDefEqProofs [Iw,g0]
 simp -implicitDefEqProofs [g0]
 refine Ae (fun k s=>∃j o2 o3 o4 o5,j+k=w.ends.length∧Nl (fun j=> !apart w j) j=true∧s=⟨[.undef,.ptr 0 0,.undef,.undef,.undef,.undef,.undef,.sl 1 4 w.ends.length (w.ends.flatMap Ak),I w.ends.length,I j,.undef,.undef],[.var ((EF w).map (AZ 1)),.arr 1 0 (GY w).length (Jh (GY w)),o2,o3,o4,o5]⟩) ?_ (w.ends.length) _ ⟨0,.free,.free,.free,.free,by simp,by simp,by simp⟩
 intro k s ⟨j,o2,o3,o4,o5,hj,hp,hs⟩
 subst hs
 by_cases hjn:j<w.ends.length
 ·have hw:IntKind.i64.wrap ((j:Int)+1)=(j+1:Nat):=by rw[Ad (by omega) (by omega)];simp
  have hst:=IC (fun j=> !apart w j) j
  have hes:=Q6 hsz hjn
  simp -implicitDefEqProofs [hjn]
  refine Aa (hD w j hsz) ?_
  generalize hd:MQ w j=d
  have hap:apart w j=(ES w.ends[j].path&&(!d.deal.ok|| !decide (d.deal.version=BJ w.server w.ends[j].versions))):=by unfold apart;simp[hjn,hd]
  simp -implicitDefEqProofs
  refine Aa (hK w.ends[j].path (XR hes).2.2) ?_
  by_cases g1:ES w.ends[j].path=true
  rotate_left
  ·have ha:apart w j=false:=by rw[hap];simp[g1]
   rw[ha]at hst
   simp -implicitDefEqProofs [g1,hjn]
   exact⟨k-1,by omega,j+1,by omega,by rw[hst,hp];rfl,by simp[hw]⟩
  by_cases g2:d.deal.ok=true
  rotate_left
  ·have ha:apart w j=true:=by rw[hap];simp[g1,g2]
   simp -implicitDefEqProofs [g1,g2,hjn,ApS hjn ha]
  simp -implicitDefEqProofs [g1,g2,hjn]
  refine Aa (hB w.server w.ends[j].versions hws.1 (U1 hes)) ?_
  generalize BJ w.server w.ends[j].versions=b at hap
  by_cases g3:d.deal.version=b
  ·have ha:apart w j=false:=by rw[hap];simp[g1,g2,g3]
   rw[ha]at hst
   simp -implicitDefEqProofs [g1,g2,g3,hjn]
   exact⟨k-1,by omega,j+1,by omega,by rw[hst,hp];rfl,by simp[hw]⟩
  ·have ha:apart w j=true:=by rw[hap];simp[g1,g2,g3]
   simp -implicitDefEqProofs [g1,g2,g3,hjn,ApS hjn ha]
 ·obtain rfl:j=w.ends.length:=by omega
  simp -implicitDefEqProofs [Iw,g0,hp]
def JX (w:World):ByteArray:=
 if Ca w=true then(if Ra w=true then(if Iw w=true then(if w.hurt=cntF (Hy w) w.log then(if w.log.any Ih=true then⟨#[115,111,98,101,114]⟩else⟨#[]⟩)else⟨#[99,111,117,110,116]⟩)else⟨#[116,111,103,101,116,104,101,114]⟩)else⟨#[98,111,117,110,100]⟩)else⟨#[119,111,114,108,100]⟩
abbrev O1 (R:Rel):Prop:=∀w:World,Ay w≤4194304→R [arg (EF w)] [] (S (JX w)) []
theorem AtQ (D:Dn) (hW:Pd (D Am3)) (hB:JD (D Ahz)) (hT:Ip (D Ae2)) (hC:JM (D Ahp)) (hS:O6 (D AmE)):O1 (Body D Tp):=by
 intro w hsz
 simp -implicitDefEqProofs
 refine Aa (hW w hsz) ?_
 by_cases g1:Ca w=true
 rotate_left
 ·simp -implicitDefEqProofs [g1,JX]
 simp -implicitDefEqProofs [g1]
 refine Aa (hB w hsz) ?_
 by_cases g2:Ra w=true
 rotate_left
 ·simp -implicitDefEqProofs [g1,g2,JX]
 simp -implicitDefEqProofs [g2]
 refine Aa (hT w hsz) ?_
 by_cases g3:Iw w=true
 rotate_left
 ·simp -implicitDefEqProofs [g1,g2,g3,JX]
 simp -implicitDefEqProofs [g3]
 refine Aa (hC w hsz) ?_
 by_cases g4:w.hurt=cntF (Hy w) w.log
 rotate_left
 ·simp -implicitDefEqProofs [g1,g2,g3,g4,JX]
 simp -implicitDefEqProofs [←g4]
 refine Aa (hS w hsz) ?_
 by_cases g5:w.log.any Ih=true
 ·simp -implicitDefEqProofs [g1,g2,g3,g5,←g4,JX]
 ·simp -implicitDefEqProofs [g1,g2,g3,g5,←g4,JX]
theorem AuG (D:Dn) (hW:Pd (D Anr)) (hB:JD (D Ag2)) (hT:Ip (D Aeq)) (hC:JM (D AgL)) (hS:O6 (D AmU)):O1 (Body D Um):=by
 intro w hsz
 simp -implicitDefEqProofs
 refine Aa (hW w hsz) ?_
 by_cases g1:Ca w=true
 rotate_left
 ·simp -implicitDefEqProofs [g1,JX]
 simp -implicitDefEqProofs [g1]
 refine Aa (hB w hsz) ?_
 by_cases g2:Ra w=true
 rotate_left
 ·simp -implicitDefEqProofs [g1,g2,JX]
 simp -implicitDefEqProofs [g2]
 refine Aa (hT w hsz) ?_
 by_cases g3:Iw w=true
 rotate_left
 ·simp -implicitDefEqProofs [g1,g2,g3,JX]
 simp -implicitDefEqProofs [g3]
 refine Aa (hC w hsz) ?_
 by_cases g4:w.hurt=cntF (Hy w) w.log
 rotate_left
 ·simp -implicitDefEqProofs [g1,g2,g3,g4,JX]
 simp -implicitDefEqProofs [←g4]
 refine Aa (hS w hsz) ?_
 by_cases g5:w.log.any Ih=true
 ·simp -implicitDefEqProofs [g1,g2,g3,g5,←g4,JX]
 ·simp -implicitDefEqProofs [g1,g2,g3,g5,←g4,JX]
end Go.Eng.T
namespace Go.Eng.T
open Go.Eng.X
def Eu:Nat→Bc
 |0=>R 0 [m (z 2)] [] [2]
 |1=>R 1 [m (s 0),C 318 [r (l 0)] [0],m (s 1),C 319 [r (l 2)] [],m (l 1),m (l 3)] [(3,4),(4,5)] []
 |2=>R 2 [m (s 0),C 320 [r (l 0)] [],n (l 1),m (l 2),G 3 (m (s 0)),G 3 (e (l 4)),G 3 (y .eql (l 5) (i 6)),k (l 3) t (l 6),m (l 7),G 8 (m (s 0)),G 8 (m (s 4)),G 8 (C 321 [r (l 9),r (l 10)] []),G 8 (y .geq (l 11) (i 0)),k (l 8) t (l 12)] [(6,13)] []
 |3=>R 3 [m (s 3),m (l 0)] [(2,1)] [0,1,3,4]
 |4=>R 4 [m (s 1),C 322 [r (l 0),r (i 3),r (i 256)] [],M 1 1 1 [l 1],m (s 1),C 322 [r (l 3),r (i 2),r (i 3)] [],C 323 [r (l 2),r (l 4)] [2],m (l 5)] [(5,6)] []
 |_=>R 5 [m (s 3),m (s 1),m (s 0),e (l 2),y .add (l 3) (i 1),C 322 [r (l 1),r (i 1),r (l 4)] [],m (s 4),m (s 5),b [o,N 1] [(0,1,l 6),(1,1,l 7)],M 3 2 1 [l 8],C 324 [v (l 0),r (l 5),v (l 9)] [4],m (l 10)] [(2,11)] [0,1,3,4,5]
def NV:Bh:=⟨7,5,[0,1],0,false,[],j (d (Eu 0)) (j (d (Eu 1)) (j (j (d (Eu 2)) (h 6 (j (d (Eu 3)) (.ret)) (.skip))) (j (d (Eu 4)) (j (d (Eu 5)) (.ret))))),[.slot 2]⟩
def Aab:List Tmp:=[0,1,4,5,6,7,25]
def AB:Nat→Bc
 |0=>R 0 [x 0 (s 0),m f] [(1,0)] [0,2]
 |1=>R 1 [m (i 1048576)] [(3,0)] []
 |2=>R 2 [P 15 (s 1),m (s 3),C 7 [r (l 0),r (l 1)] [],m (l 2)] [(3,3)] []
 |3=>R 3 [m (s 3),y .lss (l 0) (i 0)] [(7,1)] [3]
 |4=>R 4 [m t] [(2,0)] [1]
 |5=>R 5 [P 15 (s 1),C 8 [r (l 0)] [1,2,3,4,5,6],C 89 [r (l 1)] [],m (l 2)] [(4,3)] []
 |6=>R 6 [P 15 (s 1),C 8 [r (l 0)] [7,8,9,10,11,12],a 13 zW,W 15 (l 2) (l 1)] [(5,2)] []
 |7=>R 7 [P 15 (s 5),C 133 [r (l 0)] [],m (l 1)] [(6,2)] []
 |8=>R 8 [m (s 6),m (s 4),y .neq (l 0) (l 1)] [(8,2)] [4,6]
 |9=>R 9 [m f] [(2,0)] [1,5]
 |10=>T 10 [D (P 15 (s 5)) [13] [],D (P 15 (s 1)) [0] [],D (C 8 [r (l 1)] [14,15,16,17,18,19]) [14,15,16,17,18,19] [14,15,16,17,18,19],D (C 11 [r (l 0),r (l 2)] []) [7,8,9,10,11,12,14,15,16,17,18,19] [],D (n (l 3)) [] []] [(9,4)] [1,5]
 |11=>R 11 [m f] [(2,0)] []
 |_=>R 12 [m t] [(2,0)] []
def Jm:Bh:=⟨10,20,[0],0,false,[],j (d (AB 0)) (j (d (AB 1)) (j (d (AB 2)) (j (j (d (AB 3)) (h 7 (j (d (AB 4)) (.ret)) (.skip))) (j (d (AB 5)) (j (d (AB 6)) (j (d (AB 7)) (j (j (d (AB 8)) (h 8 (j (d (AB 9)) (.ret)) (.skip))) (j (j (d (AB 10)) (h 9 (j (d (AB 11)) (.ret)) (.skip))) (j (d (AB 12)) (.ret)))))))))),[.slot 2]⟩
def Vz:List Tmp:=[0,1,2,3,4,5,6,11,21,26]
def Ai:Nat→Bc
 |0=>R 0 [m (z 1)] [] [1]
 |1=>R 1 [m (i 0)] [(2,0)] []
 |2=>R 2 [m (s 0),e (l 0),m (i 0)] [(6,0),(7,1),(8,2)] []
 |3=>R 3 [y .lss (s 8) (s 7)] [(9,0)] []
 |4=>R 4 [A 1 (s 6) (s 8),L (l 0),m (l 1)] [(3,2)] []
 |5=>R 5 [m (s 2),m (s 3),e (l 1),y .add (l 0) (l 2),m (l 3)] [(2,4)] [3]
 |6=>R 6 [m (s 2),y .lss (l 0) (i 0)] [(10,1)] []
 |7=>R 8 [y .add (s 8) (i 1),m (l 0)] [(8,1)] []
 |8=>Q 9 [m (s 2),C 419 [r (.con (.sc (.slice none 0 0))),r (l 0)] [0],m (l 1)] [(4,2)] [2,6,7,8] [] [w 0 2]
 |9=>R 10 [m (s 0),e (l 0),m (i 0)] [(11,0),(12,1),(13,2)] [0]
 |10=>R 11 [y .lss (s 13) (s 12)] [(14,0)] []
 |11=>R 12 [A 1 (s 11) (s 13),L (l 0),m (l 1)] [(5,2)] []
 |12=>Q 13 [m (s 4),m (s 5),q 1 1 8 (l 0) (l 1),m (l 2)] [(4,3)] [5] [1] [w 1 2]
 |13=>R 14 [y .add (s 13) (i 1),m (l 0)] [(13,1)] []
 |_=>R 15 [m (s 4),m (l 0)] [(1,1)] [4,11,12,13]
def GA:Bh:=⟨15,3,[0],0,false,[],j (d (Ai 0)) (j (d (Ai 1)) (j (j (d (Ai 2)) (.block 0 (.loop (j (d (Ai 3)) (j (h 9 (.skip) (.exit 0)) (j (.block 1 (j (d (Ai 4)) (j (d (Ai 5)) (j (d (Ai 6)) (h 10 (.stuck) (.skip)))))) (d (Ai 7)))))))) (j (d (Ai 8)) (j (j (d (Ai 9)) (.block 2 (.loop (j (d (Ai 10)) (j (h 14 (.skip) (.exit 2)) (j (.block 3 (j (d (Ai 11)) (d (Ai 12)))) (d (Ai 13)))))))) (j (d (Ai 14)) (.ret)))))),[.slot 1]⟩
def Qm:List Tmp:=[0,2,3,5,6,8,9,10,11,12,20,25,26,27,28]
attribute [simp] Eu NV AB Jm Ai GA
end Go.Eng.T
