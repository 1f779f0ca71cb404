/- Own work: part 14 of the proof of FnExactRunConsole. -/
import Derived.Test.YtogmkdgkgfhhoaaGreatDoorDEngAL
import Derived.Test.YtogmkdgkgfhhoaaGreatDoorDP11
import Derived.Test.YtogmkdgkgfhhoaaGreatDoorDP12
import Derived.Test.YtogmkdgkgfhhoaaGreatDoorDP13
set_option linter.unusedSimpArgs false
set_option linter.unusedVariables false
namespace Go.Eng.T
set_option maxRecDepth 20000
theorem ALp {xs:List Eo} {j:Nat} (h:j<xs.length):xs[j].dialed.up.length<=Cr Ip xs:=by
 have:=size_at (f:=Ip) h
 simp only[Ip,Cb]at this⊢
 omega
theorem AG4 {w:World} (h:Af w<=4194304) {j:Nat} (hj:j<w.log.length):w.log[j].dialed.up.length<=maxLen:=by
 have:=ALp hj
 unfold Af at h
 unfold maxLen;omega
def Avc (w:World) (l:Eo):Bool:=l.on&&Lj w.rollout.version l.dialed
variable (R:Rel)
abbrev AGT:Prop:=∀(w:World) (l:Eo),l.dialed.up.length<=maxLen->R [arg (Bu w),arg (Az l)] [] (B (Avc w l)) []
variable (D:Dn)
theorem APr (hB:PN (D 144)):AGT (Body D AMj):=by
 intro w l hl
 by_cases h:l.on=true
 ·simp -implicitDefEqProofs [h]
  refine Aa (hB l.dialed _ hl) ?_
  simp -implicitDefEqProofs [Avc,h]
 ·simp -implicitDefEqProofs [h,Avc]
theorem AJI (hB:PN (D 175)):AGT (Body D Axw):=by
 intro w l hl
 by_cases h:l.on=true
 ·simp -implicitDefEqProofs [h]
  refine Aa (hB l.dialed _ hl) ?_
  simp -implicitDefEqProofs [Avc,h]
 ·simp -implicitDefEqProofs [h,Avc]
abbrev AxG:Prop:=∀(w:World),Af w<=4194304->R [arg (Bu w)] [] (B (decide (w.hurt=cntF (Avc w) w.log))) []
theorem AOv (hB:AGT (D 158)):AxG (Body D ALD):=by
 intro w hsz
 have hl:=Akl hsz
 simp -implicitDefEqProofs
 refine Ag (fun k s=>∃j,j+k=w.log.length/\s=⟨[.undef,.ptr 0 0,.undef,.sc (.int .i64 (cntF (Avc w) (w.log.take j))),.sc (.int .i64 j),.undef,.undef],[.var ((Bu w).map (AO 1))]⟩) ?_ w.log.length _ ⟨0,by simp,by simp[cntF]⟩
 intro k s ⟨j,hj,hs⟩
 subst hs
 by_cases hjn:j<w.log.length
 ·have hw:=Cv (j:=j) (by omega)
  have hc:=AaP (f:=Avc w) hjn
  have hcl:=Afa (f:=Avc w) (xs:=w.log) (j:=j) (by omega)
  have hw2:IntKind.i64.wrap ((cntF (Avc w) (w.log.take j):Int)+1)=(cntF (Avc w) (w.log.take j)+1:Nat):=by rw[Ad (by omega) (by omega)];simp
  simp -implicitDefEqProofs [hjn]
  refine Aa (hB w w.log[j] (AG4 hsz hjn)) ?_
  by_cases he:Avc w w.log[j]=true
  ·simp -implicitDefEqProofs [he]
   exact⟨k-1,by omega,j+1,by omega,by rw[hc,hw2];simp[he],by simp[hw]⟩
  ·simp -implicitDefEqProofs [he]
   exact⟨k-1,by omega,j+1,by omega,by rw[hc];simp[he],by simp[hw]⟩
 ·have hx:=Afj (f:=Avc w) (xs:=w.log) (j:=j) (by omega)
  simp -implicitDefEqProofs [hjn,hx]
  exact decide_eq_decide.2 eq_comm
theorem AGi (hB:AGT (D 196)):AxG (Body D Avz):=by
 intro w hsz
 have hl:=Akl hsz
 simp -implicitDefEqProofs
 refine Ag (fun k s=>∃j o,j+k=w.log.length/\s=⟨[.undef,.ptr 0 0,.undef,.sc (.int .i64 (cntF (Avc w) (w.log.take j))),.undef,.sl 1 8 w.log.length (w.log.flatMap Az),.sc (.int .i64 w.log.length),.sc (.int .i64 j),.undef,.undef],[.var ((Bu w).map (AO 1)),o]⟩) ?_ w.log.length _ ⟨0,.free,by simp,by simp[cntF]⟩
 intro k s ⟨j,o,hj,hs⟩
 subst hs
 by_cases hjn:j<w.log.length
 ·have hw:=Cv (j:=j) (by omega)
  have hc:=AaP (f:=Avc w) hjn
  have hcl:=Afa (f:=Avc w) (xs:=w.log) (j:=j) (by omega)
  have hw2:IntKind.i64.wrap ((cntF (Avc w) (w.log.take j):Int)+1)=(cntF (Avc w) (w.log.take j)+1:Nat):=by rw[Ad (by omega) (by omega)];simp
  simp -implicitDefEqProofs [hjn]
  refine Aa (hB w w.log[j] (AG4 hsz hjn)) ?_
  by_cases he:Avc w w.log[j]=true
  ·simp -implicitDefEqProofs [he]
   exact⟨k-1,by omega,j+1,by omega,by rw[hc,hw2];simp[he],by simp[hw]⟩
  ·simp -implicitDefEqProofs [he]
   exact⟨k-1,by omega,j+1,by omega,by rw[hc];simp[he],by simp[hw]⟩
 ·have hx:=Afj (f:=Avc w) (xs:=w.log) (j:=j) (by omega)
  simp -implicitDefEqProofs [hjn,hx,Aqs]
def BH (t:Int):Bool:=decide (M6 t 0 255)&&decide (t.tmod 16=10)
abbrev Ib:Prop:=∀t:Int,R [I t] [] (B (BH t)) []
theorem Ach (hI:Vf (D 71)):Ib (Body D Jh):=by
 intro t
 simp -implicitDefEqProofs
 refine Aa (hI _ _ _) ?_
 by_cases h:M6 t 0 255
 ·simp -implicitDefEqProofs [h,BH,Aqs]
 ·simp -implicitDefEqProofs [h,BH]
theorem AEB (hI:Vf (D 114)):Ib (Body D AuA):=by
 intro t
 simp -implicitDefEqProofs
 refine Aa (hI _ _ _) ?_
 by_cases h:M6 t 0 255
 ·simp -implicitDefEqProofs [h,BH,Aqs]
 ·simp -implicitDefEqProofs [h,BH]
abbrev At7:Prop:=∀xs:List Int,xs.length<=maxLen->R [.sl 1 1 xs.length (ints xs)] [] (B (xs.any BH)) []
theorem QR {α:Type} {p:α->Bool} {xs:List α} {j:Nat} (h:j<xs.length) (hp:p xs[j]=true):xs.any p=true:=List.any_eq_true.2 ⟨_,List.getElem_mem h,hp⟩
theorem Abh {α:Type} {p:α->Bool} {xs:List α} {j:Nat} (h:j<xs.length):(xs.take (j+1)).any p=((xs.take j).any p||p xs[j]):=by
 have e:xs.take (j+1)=xs.take j++ [xs[j]]:=by simp
 rw[e,List.any_append];simp
theorem any_none {α:Type} {p:α->Bool} {xs:List α} {j:Nat} (h:xs.length<=j) (ha:(xs.take j).any p=false):xs.any p=false:=by rwa [List.take_of_length_le h]at ha
theorem AN1 (hR:Ib (D 250)):At7 (Body D AKg):=by
 intro xs hl
 unfold maxLen at hl
 simp -implicitDefEqProofs
 refine Ag (fun k s=>∃j,j+k=xs.length/\(xs.take j).any BH=false/\s=⟨[.sl 1 1 xs.length (ints xs),.undef,.sc (.int .i64 j),.undef,.undef],[]⟩) ?_ xs.length _ ⟨0,by simp,by simp,by simp⟩
 intro k s ⟨j,hj,hp,hs⟩
 subst hs
 by_cases hjn:j<xs.length
 ·have hw:=Cv (j:=j) (by omega)
  simp -implicitDefEqProofs [hjn]
  refine Aa (hR _) ?_
  by_cases h1:BH xs[j]=true
  ·have e:=QR hjn h1
   generalize xs.any BH=b at e
   subst e
   simp -implicitDefEqProofs [h1]
  ·simp -implicitDefEqProofs [h1]
   exact⟨k-1,by omega,j+1,by omega,by have:=Abh (p:=BH) hjn;rw[hp]at this;simpa[h1]using this,by simp[hw]⟩
 ·have e:=any_none (by omega) hp
  generalize xs.any BH=b at e
  subst e
  simp -implicitDefEqProofs [hjn]
theorem AES (hR:Ib (D 279)) (hC:Ate D (D 267)):At7 (Body D AuF):=by
 intro xs hl
 simp -implicitDefEqProofs
 refine Aa (hC xs 279 _ BH hl Api (fun x=>hR x)) ?_
 generalize xs.any BH=b
 simp -implicitDefEqProofs
def Ayi (l:Eo):Bool:=l.dialed.deal.ok&&(l.dialed.deal.tags.any BH|| !decide (M6 l.dialed.deal.version 1 9))
abbrev AAr:Prop:=∀w:World,Af w<=4194304->R [arg (Bu w)] [] (B (!w.log.any Ayi)) []
theorem AG9 {w:World} (h:Af w<=4194304) {j:Nat} (hj:j<w.log.length):w.log[j].dialed.deal.tags.length<=maxLen:=by
 have:=size_at (f:=Ip) hj
 have e:Ip w.log[j]=w.log[j].dialed.deal.tags.length+w.log[j].dialed.up.length:=rfl
 unfold Af at h
 unfold maxLen;omega
theorem AO3 (hH:At7 (D 221)) (hI:Vf (D 71)):AAr (Body D AMb):=by
 intro w hsz
 have hl:=Akl hsz
 simp -implicitDefEqProofs
 refine Ag (fun k s=>∃j o1,j+k=w.log.length/\(w.log.take j).any Ayi=false/\s=⟨[.undef,.ptr 0 0,.undef,.sc (.int .i64 j),.undef,.undef,.undef],[.var ((Bu w).map (AO 1)),o1]⟩) ?_ w.log.length _ ⟨0,.free,by simp,by simp,by simp⟩
 intro k s ⟨j,o1,hj,hp,hs⟩
 subst hs
 by_cases hjn:j<w.log.length
 ·have hw:=Cv (j:=j) (by omega)
  have hst:=Abh (p:=Ayi) hjn
  rw[hp,Bool.false_or]at hst
  by_cases h1:w.log[j].dialed.deal.ok=true
  rotate_left
  ·simp -implicitDefEqProofs [hjn,h1]
   exact⟨k-1,by omega,j+1,by omega,by simpa[Ayi,h1]using hst,by simp[hw]⟩
  simp -implicitDefEqProofs [hjn,h1]
  refine Aa (hH _ (AG9 hsz hjn)) ?_
  by_cases h2:w.log[j].dialed.deal.tags.any BH=true
  ·have e:=QR (p:=Ayi) hjn (by unfold Ayi;rw[h1,h2];rfl)
   generalize w.log.any Ayi=b at e
   generalize w.log[j].dialed.deal.tags.any BH=c at h2
   subst e;subst h2
   simp -implicitDefEqProofs
  have h2':w.log[j].dialed.deal.tags.any BH=false:=by simpa only[Bool.not_eq_true]using h2
  have hd:Ayi w.log[j]= !decide (M6 w.log[j].dialed.deal.version 1 9):=by unfold Ayi;rw[h1,h2'];rfl
  generalize w.log[j].dialed.deal.tags.any BH=c at h2'
  subst h2'
  simp -implicitDefEqProofs
  refine Aa (hI _ _ _) ?_
  by_cases h3:M6 w.log[j].dialed.deal.version 1 9
  ·simp -implicitDefEqProofs [h3]
   exact⟨k-1,by omega,j+1,by omega,by have:=hst;rw[hd]at this;simpa[h3]using this,by simp[hw]⟩
  ·have e:=QR (p:=Ayi) hjn (by rw[hd];simp[h3])
   generalize w.log.any Ayi=b at e
   subst e
   simp -implicitDefEqProofs [h3]
 ·have e:=any_none (by omega) hp
  generalize w.log.any Ayi=b at e
  subst e
  simp -implicitDefEqProofs [hjn]
abbrev AyV:Prop:=∀l:Eo,l.dialed.deal.tags.length<=maxLen->R [arg (Az l)] [] (B (Ayi l)) []
theorem AId (hH:At7 (D 270)) (hI:Vf (D 114)):AyV (Body D Avr):=by
 intro l hl
 by_cases h1:l.dialed.deal.ok=true
 rotate_left
 ·simp -implicitDefEqProofs [h1,Ayi]
 simp -implicitDefEqProofs [h1]
 refine Aa (hH _ hl) ?_
 unfold Ayi
 rw[h1]
 generalize l.dialed.deal.tags.any BH=c
 cases c
 rotate_left
 ·simp -implicitDefEqProofs
 simp -implicitDefEqProofs
 refine Aa (hI _ _ _) ?_
 simp -implicitDefEqProofs
theorem AIu (h1:AyV (D 247)) (hC:As0 D (D 248)):AAr (Body D AwX):=by
 intro w hsz
 simp -implicitDefEqProofs
 refine Aa (hC w.log 247 _ Ayi (by have:=Akl hsz;unfold maxLen;omega) Api (fun j hj=>h1 _ (AG9 hsz hj))) ?_
 generalize w.log.any Ayi=b
 simp -implicitDefEqProofs
set_option maxRecDepth 100000
def Aup:=mk 0xc208000402218 0xc020202ec03420110101 [0x188400002804480802,0x3204400200042423c08000201b020,0x100031a105a1c422443014825080bc8621910086040e006039824cd0106404a108120180e50cc9101000404000040e8860203546,0x2044000861108280001040c62,0x84002102300200021231e4084221a441041482,634167071344800,0x102000861108380001040cc2]
def Aze:=dT 69932027928
def Aun:=mk 0x7b4485a40004312d 0x601010702920101218815c948405006022ec03820110101 [0x40008801100000000852880000100088008200088443d22c0818802,0xa420c41290b4950c2840c4242d21410807a625212908004400409564242120000000214a20000040022002080022110f485600110404004089798a4188c731483118e629062300049918004227a22121,0x18c1140e6093300265904a4001010000102c21a0c05c44,0x4184600000084f4cc4f44862,0x30851c40020101c0058c4b080,0x4a4e2429c84a0,5211685150525632,0x50a480802000607243603a00b18968820c058e0,0xa1005a528014c105a53061686a10c0000c42820440420a2d2941694a0a4852084a039a1809484a0400041296c105b04702da0000c0504094204140051000848c02003189400a20010900040063129e90b,0x4212000102214044128,0x21e409000004242d2145021086000e58948485a428a258086000a58940080421b8004098008025220080088250008002001c9129494b,0x61000000427a6627a2416a]
def Ay3:=dT 0x384240b484210802d
def Avt:=mk 8864812538921 0x30080838129008090c40ae4242028030110101 [0x1004000021089000818802,0xc11100461000000211a822,0xce2304a30010080e0025a44b040,0x8498789c8460,0x41110210404262200088002200000850b00422e344855082,0x412900400080c4870484444f44ca0,0x204c41120c45184800600042483d01084634804104ac418c2,0x270800040b88088e0,0x1cc509000000012062c3620410a,0xc200084108028401206343620612a]
def AAH:=dT 0x284211882108029
def At1:=mk 35459388416408 0xc02ec0342011021815e0402280310101 [4573968443376642,208306439200,0x5b020a2920270928421c9848830f00e1c1408ac2c4184080c004000e4101c0406203144,0x43084004080008c40c60,0x5b420a292027092842149848830f00e1c1408ac2c4184080c004000e4101c0406203184,0x1840300022080000408a2,0x6100c002882400208c24002c108868084211a440c400418c2]
def Ayz:=dT 491275030552
attribute [simp] Aup Aun Avt At1
abbrev AtN (D:Dn) (R:Rel):Prop:=∀(xs:List Ext) (g:Nat) (caps:List V) (p:Ext->Bool),xs.length<=maxLen->Atz caps->(∀(j:Nat) (h:j<xs.length),D g (arg (Cc xs[j])::caps) [] (B (p xs[j])) [])->R [.sl 1 2 xs.length (xs.flatMap Cc),.fn g caps] [] (I (Rc p xs 0)) []
theorem AD7:AtN D (Body D AlL):=by
 intro xs g caps p hl hc hp
 unfold maxLen at hl
 simp -implicitDefEqProofs
 refine Ag (fun k s=>∃j,j+k=xs.length/\Rc p xs 0=Rc p (xs.drop j) j/\s=⟨[.sl 1 2 xs.length (xs.flatMap Cc),.fn g caps,.undef,.undef,.sc (.int .i64 xs.length),.sc (.int .i64 j),.undef,.undef],[]⟩) ?_ xs.length _ ⟨0,by simp,by simp,by simp⟩
 intro k s ⟨j,hj,hi,hs⟩
 subst hs
 by_cases hjn:j<xs.length
 ·have hw:=Cv (j:=j) (by omega)
  rw[AkE hjn]at hi
  simp -implicitDefEqProofs [hjn,hc.1,hc.2.1]
  refine Aa (hp j hjn) ?_
  by_cases he:p xs[j]=true
  ·rw[if_pos he]at hi
   simp -implicitDefEqProofs [he,hi]
  ·rw[if_neg he]at hi
   simp -implicitDefEqProofs [he]
   exact⟨k-1,by omega,j+1,by omega,by simpa using hi,by simp[hw]⟩
 ·rw[Am6 (by omega)]at hi
  simp -implicitDefEqProofs [hjn,hi]
abbrev Atu (D:Dn) (R:Rel):Prop:=∀(xs:List Ext) (g:Nat) (caps:List V) (p:Ext->Bool),xs.length<=maxLen->Atz caps->(∀(j:Nat) (h:j<xs.length),D g (arg (Cc xs[j])::caps) [] (B (p xs[j])) [])->R [.sl 1 2 xs.length (xs.flatMap Cc),.fn g caps] [] (B (xs.any p)) []
theorem AAJ (hI:AtN D (D 352)):Atu D (Body D Ajk):=by
 intro xs g caps p hl hc hp
 simp -implicitDefEqProofs [hc.2.2]
 refine Aa (hI xs g caps p hl hc hp) ?_
 have e:decide (0<=Rc p xs 0)=xs.any p:=by rw[Bool.eq_iff_iff];simp only[decide_eq_true_eq];rw[AjA (by omega)]
 simp -implicitDefEqProofs [e]
def Gq (t:Int) (x:Ext):Bool:=decide (x.tag=t)
def K7 (l:List Ext) (t:Int):Int:=Rc (Gq t) l 0
abbrev Rj:Prop:=∀(l:List Ext) (t:Int),l.length<=maxLen->R [.sl 1 2 l.length (l.flatMap Cc),I t] [] (I (K7 l t)) []
theorem Amt:Rj (Body D Qt):=by
 intro l t hl
 unfold maxLen at hl
 have hres:K7 l t=Rc (Gq t) l 0:=rfl
 rw[hres]
 simp -implicitDefEqProofs
 refine Ag (fun k s=>∃j,j+k=l.length/\Rc (Gq t) l 0=Rc (Gq t) (l.drop j) j/\s=⟨[.sl 1 2 l.length (l.flatMap Cc),I t,.undef,I j,.undef,.undef],[]⟩) ?_ (l.length) _ ⟨0,by simp,by simp,by simp⟩
 intro k s ⟨j,hj,hi,hs⟩
 subst hs
 by_cases hjn:j<l.length
 ·have hw:=Cv (j:=j) (by omega)
  rw[AkE hjn]at hi
  by_cases he:l[j].tag=t
  ·rw[if_pos (by simp[Gq,he])]at hi
   simp -implicitDefEqProofs [hjn,he,hi]
  ·rw[if_neg (by simp[Gq,he])]at hi
   simp -implicitDefEqProofs [hjn,he]
   exact⟨k-1,by omega,j+1,by omega,by simpa using hi,by simp[hw]⟩
 ·rw[Am6 (by omega)]at hi
  simp -implicitDefEqProofs [hjn,hi]
abbrev AC5:Prop:=∀(x:Ext) (t:Int),R [arg (Cc x),.rptr 1 [I t] 0] [] (B (Gq t x)) []
theorem AJW:AC5 (Body D AwN):=by
 intro x t
 simp -implicitDefEqProofs [Gq,Aqs]
theorem AKa (h1:AC5 (D 351)) (hX:AtN D (D 352)):Rj (Body D AyJ):=by
 intro l t hl
 have hres:K7 l t=Rc (Gq t) l 0:=rfl
 rw[hres]
 simp -implicitDefEqProofs
 refine Aa (hX l 351 _ (Gq t) hl (ABB Api) (fun j h=>h1 l[j] t)) ?_
 simp -implicitDefEqProofs
def SY (x:Ext):Bool:=decide (M6 x.tag 0 255)&&(decide (x.body.length<=4)&&allIn x.body 0 255)
def Qo (l:List Ext) (i:Nat):Bool:=match l[i]? with
 | some x=>SY x&& !(l.take i).any (Gq x.tag)
 | none=>true
theorem Oo {l:List Ext} {i:Nat} (h:i<l.length):Qo l i=(SY l[i]&& !(l.take i).any (Gq l[i].tag)):=by
 unfold Qo
 rw[List.getElem?_eq_getElem h]
def Ej (l:List Ext):Bool:=Oj (Qo l) l.length&&decide (l.length<=6)
theorem AjL {α:Type} {p:α->Bool}:∀ {xs:List α} {i:Int} {j:Nat},0<=i->(h:j<xs.length)->p xs[j]=true->(Rc p xs i<i+j↔(xs.take j).any p=true)
 | x::r,i,0,hi,h,hp=>by
  have:p x=true:=hp
  simp[Rc,this]
 | x::r,i,j+1,hi,h,hp=>by
  by_cases hx:p x=true
  ·simp[Rc,hx];omega
  ·have:=AjL (p:=p) (xs:=r) (i:=i+1) (j:=j) (by omega) (by simpa using h) (by simpa using hp)
   simp only[Rc,hx,List.take_succ_cons,List.any_cons,Bool.false_or]
   rw[<-this]
   simp
   omega
theorem Af9 {l:List Ext} {j:Nat} (h:j<l.length):(K7 l l[j].tag<(j:Int))=((l.take j).any (Gq l[j].tag)=true):=by
 have:=AjL (p:=Gq l[j].tag) (i:=0) (by omega) h (by simp[Gq])
 rw[Int.zero_add]at this
 exact propext this
theorem ADT {l:List Ext} {j:Nat} {t:Int}:(0<=K7 (l.take j) t)=((l.take j).any (Gq t)=true):=AjA (by omega)
theorem PZ {l:List Ext} {j:Nat} (h:j<l.length) (hn:Qo l j=false):Ej l=false:=by
 unfold Ej
 rw[AhE h hn];rfl
abbrev JX:Prop:=∀l:List Ext,OD l->R [.sl 1 2 l.length (l.flatMap Cc)] [] (B (Ej l)) []
theorem Ai0 (hI:Vf (D 71)) (hB:RN (D 217)) (hX:Rj (D 309)):JX (Body D Nu):=by
 intro l hl
 have hll:=hl.1
 simp -implicitDefEqProofs
 refine Ag (fun k s=>∃j,j+k=l.length/\Oj (Qo l) j=true/\s=⟨[.sl 1 2 l.length (l.flatMap Cc),.undef,I j,.undef,.undef],[]⟩) ?_ (l.length) _ ⟨0,by simp,by simp,by simp⟩
 intro k s ⟨j,hj,hr,hs⟩
 subst hs
 by_cases hjn:j<l.length
 ·have hw:=Cv (j:=j) (by omega)
  have hst:=LY (Qo l) j
  have hq:=Oo hjn
  have hb:=P5 hl hjn
  rw[hr,Bool.true_and]at hst
  simp -implicitDefEqProofs [hjn]
  refine Aa (hI _ _ _) ?_
  by_cases h1:M6 l[j].tag 0 255
  rotate_left
  ·have e:=PZ hjn (by rw[hq];simp[SY,h1])
   simp -implicitDefEqProofs [h1,e]
  by_cases h2:l[j].body.length<=4
  rotate_left
  ·have e:=PZ hjn (by rw[hq];simp[SY,h2])
   have h2':(4:Int)<l[j].body.length:=by omega
   simp -implicitDefEqProofs [hjn,h1,h2',e]
  have h2':¬(4:Int)<l[j].body.length:=by omega
  simp -implicitDefEqProofs [hjn,h1,h2']
  refine Aa (hB _ (by unfold maxLen;omega)) ?_
  by_cases h3:allIn l[j].body 0 255=true
  rotate_left
  ·have e:=PZ hjn (by rw[hq];simp[SY,h3])
   simp -implicitDefEqProofs [hjn,h3,e]
  simp -implicitDefEqProofs [hjn,h3]
  refine Aa (hX l _ (by unfold maxLen;omega)) ?_
  by_cases h4:(l.take j).any (Gq l[j].tag)=true
  ·have e:=PZ hjn (by rw[hq];simp only[h4];simp)
   have h4':K7 l l[j].tag<(j:Int):=by rw[Af9 hjn];exact h4
   simp -implicitDefEqProofs [hjn,h4',e]
  ·have h4':¬K7 l l[j].tag<(j:Int):=by rw[Af9 hjn];exact h4
   have h4f:(l.take j).any (Gq l[j].tag)=false:=by simpa using h4
   simp -implicitDefEqProofs [hjn,h4']
   exact⟨k-1,by omega,j+1,by omega,by rw[hst,hq,h4f];simp[SY,h1,h2,h3],by simp[hw]⟩
 ·obtain rfl:j=l.length:=by omega
  have e:Ej l=decide (l.length<=6):=by unfold Ej;rw[hr];rfl
  by_cases h5:l.length<=6
  ·have h5':(l.length:Int)<=6:=by omega
   simp -implicitDefEqProofs [e,h5,h5']
  ·have h5':¬(l.length:Int)<=6:=by omega
   simp -implicitDefEqProofs [e,h5,h5']
theorem AHW (hI:Vf (D 114)) (hX:Rj (D 321)) (hN:AsS (D 233)):JX (Body D AwF):=by
 intro l hl
 have hll:=hl.1
 simp -implicitDefEqProofs
 refine Ag (fun k s=>∃j o0,j+k=l.length/\Oj (Qo l) j=true/\s=⟨[.sl 1 2 l.length (l.flatMap Cc),.undef,.undef,.undef,.sl 1 2 l.length (l.flatMap Cc),I l.length,I j,.undef,.undef],[o0]⟩) ?_ (l.length) _ ⟨0,.free,by simp,by simp,by simp⟩
 intro k s ⟨j,o0,hj,hr,hs⟩
 subst hs
 by_cases hjn:j<l.length
 ·have hw:=Cv (j:=j) (by omega)
  have hst:=LY (Qo l) j
  have hq:=Oo hjn
  have hb:=P5 hl hjn
  rw[hr,Bool.true_and]at hst
  simp -implicitDefEqProofs [hjn]
  refine Aa (hI _ _ _) ?_
  by_cases h1:M6 l[j].tag 0 255
  rotate_left
  ·have e:=PZ hjn (by rw[hq];simp[SY,h1])
   simp -implicitDefEqProofs [h1,e]
  have hjl:j<=l.length:=by omega
  have hmin:min j l.length=j:=by omega
  simp -implicitDefEqProofs [hjn,hjl,hmin,h1]
  have hxx:=hX (l.take j) l[j].tag (by simp;unfold maxLen;omega)
  rw[List.length_take,hmin]at hxx
  refine Aa (hxx) ?_
  by_cases h4:(l.take j).any (Gq l[j].tag)=true
  ·have e:=PZ hjn (by rw[hq];simp only[h4];simp)
   have h4':0<=K7 (l.take j) l[j].tag:=by rw[ADT];exact h4
   simp -implicitDefEqProofs [hjn,h4',e]
  have h4':¬0<=K7 (l.take j) l[j].tag:=by rw[ADT];exact h4
  have h4f:(l.take j).any (Gq l[j].tag)=false:=by simpa using h4
  by_cases h2:l[j].body.length<=4
  rotate_left
  ·have e:=PZ hjn (by rw[hq];simp[SY,h2])
   have h2':(4:Int)<l[j].body.length:=by omega
   simp -implicitDefEqProofs [hjn,h4',h2',e]
  have h2':¬(4:Int)<l[j].body.length:=by omega
  simp -implicitDefEqProofs [hjn,h4',h2']
  refine Aa (hN _ _ _ (by unfold maxLen;omega)) ?_
  by_cases h3:allIn l[j].body 0 255=true
  rotate_left
  ·have e:=PZ hjn (by rw[hq];simp[SY,h3])
   simp -implicitDefEqProofs [hjn,h3,e]
  simp -implicitDefEqProofs [hjn,h3]
  exact⟨k-1,by omega,j+1,by omega,by rw[hst,hq,h4f];simp[SY,h1,h2,h3],by simp[hw]⟩
 ·obtain rfl:j=l.length:=by omega
  have e:Ej l=decide (l.length<=6):=by unfold Ej;rw[hr];rfl
  by_cases h5:l.length<=6
  ·have h5':(l.length:Int)<=6:=by omega
   simp -implicitDefEqProofs [e,h5,h5']
  ·have h5':¬(l.length:Int)<=6:=by omega
   simp -implicitDefEqProofs [e,h5,h5']
def Ba (l:List Ext):List Int:=l.map (·.tag)
theorem Ale {l:List Ext} {j:Nat} (h:j<l.length):Ba (l.take (j+1))=Ba (l.take j)++ [l[j].tag]:=by
 have e:l.take (j+1)=l.take j++ [l[j]]:=by simp
 unfold Ba
 rw[e,List.map_append];rfl
abbrev UX:Prop:=∀l:List Ext,l.length<=4194304->R [.sl 1 2 l.length (l.flatMap Cc)] [] (.sl 0 1 (Ba l).length (ints (Ba l))) []
theorem AkD:UX (Body D PD):=by
 intro l hl
 simp -implicitDefEqProofs
 refine Ag (fun k s=>∃j o1 o2,j+k=l.length/\s=⟨[.sl 1 2 l.length (l.flatMap Cc),.undef,.arr 3,I j,.undef],[.free,o1,o2,.arr 1 0 (Ba (l.take j)).length (ints (Ba (l.take j)))]⟩) ?_ (l.length) _ ⟨0,.free,.free,by simp,by simp[Ba]⟩
 intro k s ⟨j,o1,o2,hj,hs⟩
 subst hs
 by_cases hjn:j<l.length
 ·have hw:=Cv (j:=j) (by omega)
  have hst:=Ale hjn
  have hlen:(Ba (l.take j)).length=j:=by simp[Ba];omega
  have hb:(j+1)*8<=1099511627776:=by omega
  simp -implicitDefEqProofs [hjn,hlen,hb]
  exact⟨k-1,by omega,j+1,by omega,by simp[hw],by rw[hst];simp[hlen],by rw[hst]⟩
 ·have e:l.take j=l:=List.take_of_length_le (by omega)
  simp -implicitDefEqProofs [hjn,e]
theorem AJg:UX (Body D AxM):=by
 intro l hl
 simp -implicitDefEqProofs
 refine Ag (fun k s=>∃j v3 o1 o2 o3,j+k=l.length/\s=⟨[.undef,.undef,.arr 4,v3,.sl 1 2 l.length (l.flatMap Cc),I l.length,I j,.undef],[.free,o1,o2,o3,.arr 1 0 (Ba (l.take j)).length (ints (Ba (l.take j)))]⟩) ?_ (l.length) _ ⟨0,.undef,.free,.free,.free,by simp,by simp[Ba]⟩
 intro k s ⟨j,v3,o1,o2,o3,hj,hs⟩
 subst hs
 by_cases hjn:j<l.length
 ·have hw:=Cv (j:=j) (by omega)
  have hst:=Ale hjn
  have hlen:(Ba (l.take j)).length=j:=by simp[Ba];omega
  have hb:(j+1)*8<=1099511627776:=by omega
  simp -implicitDefEqProofs [hjn,hlen,hb]
  exact⟨k-1,by omega,j+1,by omega,by simp[hw],by rw[hst];simp[hlen],by rw[hst]⟩
 ·have e:l.take j=l:=List.take_of_length_le (by omega)
  simp -implicitDefEqProofs [hjn,e]
def kept (p:Int->Bool) (l:List Ext):List Ext:=l.filter fun x=>p x.tag
theorem R9 {p:Int->Bool} {l:List Ext} {j:Nat} (h:j<l.length):kept p (l.take (j+1))=kept p (l.take j)++(if p l[j].tag then [l[j]]else []):=AaH (p:=fun x:Ext=>p x.tag) h
theorem Rq {p:Int->Bool} {l:List Ext} {j:Nat} (h:l.length<=j):kept p (l.take j)=kept p l:=AdG h
theorem Rl {p:Int->Bool} {l:List Ext} {j:Nat}:(kept p (l.take j)).length<=j:=Adw
theorem QV {l:List Ext} (h:OD l) (p:Int->Bool):OD (kept p l):=Aia h _
theorem NZ {p:Int->Bool} {l:List Ext} {j:Nat} (h:j<l.length) (hp:p l[j].tag=true):
 (kept p (l.take j)).flatMap Cc++ [.sc (.int .i64 l[j].tag),.sl 0 1 l[j].body.length (ints l[j].body)]=(kept p (l.take (j+1))).flatMap Cc:=by
 rw[R9 h,if_pos hp,List.flatMap_append];simp
theorem G7 {p:Int->Bool} {l:List Ext} {j:Nat} (h:j<l.length) (hp:p l[j].tag=true):(kept p (l.take (j+1))).length=(kept p (l.take j)).length+1:=by
 rw[R9 h,if_pos hp];simp
theorem RG {p:Int->Bool} {l:List Ext} {j:Nat} (h:j<l.length) (hp:¬p l[j].tag=true):kept p (l.take (j+1))=kept p (l.take j):=by
 rw[R9 h,if_neg hp,List.append_nil]
def AE7 (caps:List V):Prop:=∀k,caps.any (m1 k)=false
theorem Atd:AE7 []:=fun _=>rfl
theorem AzJ {fl:Nat} {cs:List V} {o:Nat} {r:List V} (h:AE7 r):AE7 (.rptr fl cs o::r):=fun k=>by
 have:=h k
 simp only[List.any_cons,this,m1,Bool.or_self]
theorem Atc {k g:Nat} {caps:List V} (h:AE7 caps):OB k (.fn g caps)= .fn g caps:=by
 have:=h k
 simp only[OB,m3,m2,this]
 rfl
theorem Aye {a b g:Nat} {caps:List V} (h:AE7 caps):Y0 a b (.fn g caps)= .fn g caps:=by
 have:=h a
 simp only[Y0,m3,m2,this]
 rfl
abbrev At9 (D:Dn) (R:Rel):Prop:=∀(l:List Ext) (g:Nat) (caps:List V) (p:Int->Bool),OD l->Atz caps->AE7 caps->(∀t:Int,D g (I t::caps) [] (B (p t)) [])->
 R [.sl 1 2 l.length (l.flatMap Cc),.fn g caps] [] (.sl 0 2 (kept p l).length ((kept p l).flatMap Cc)) []
theorem AIf:At9 D (Body D Awm):=by
 intro l g caps p hl hc hno hp
 have hll:=hl.1
 simp -implicitDefEqProofs [↓Atc hno,↓Aye hno]
 refine Ag (fun k s=>∃j v4 o1 o2 o3 o4 o5,j+k=l.length/\s=⟨[.undef,.fn g caps,.undef,.arr 6,v4,.sl 1 2 l.length (l.flatMap Cc),I l.length,I j,.undef,.undef],[.free,o1,o2,o3,o4,o5,.arr 2 0 (kept p (l.take j)).length ((kept p (l.take j)).flatMap Cc)]⟩) ?_ (l.length) _ ⟨0,.undef,.free,.free,.free,.free,.free,by simp,by simp[kept,↓Atc hno,↓Aye hno]⟩
 intro k s ⟨j,v4,o1,o2,o3,o4,o5,hj,hs⟩
 subst hs
 by_cases hjn:j<l.length
 ·have hw:=Cv (j:=j) (by omega)
  have hb:=P5 hl hjn
  have h1:l[j].body.length*8<=1099511627776:=by omega
  have hkl:=Rl (p:=p) (l:=l) (j:=j)
  have h2:((kept p (l.take j)).length+1)*32<=1099511627776:=by omega
  simp -implicitDefEqProofs [hjn,↓Atc hno,↓Aye hno,hc.1,hc.2.1]
  refine Aa (hp l[j].tag) ?_
  by_cases he:p l[j].tag=true
  ·have hst:=NZ hjn he
   have hsl:=G7 hjn he
   simp -implicitDefEqProofs [he,hjn,↓Atc hno,↓Aye hno,h1,h2]
   exact⟨k-1,by omega,j+1,by omega,by simp[hw],by rw[hsl],by rw[<-hst]⟩
  ·have hst:=RG hjn he
   simp -implicitDefEqProofs [he,↓Atc hno,↓Aye hno]
   exact⟨k-1,by omega,j+1,by omega,by simp[hw],by rw[hst],by rw[hst]⟩
 ·have e:=Rq (p:=p) (l:=l) (j:=j) (by omega)
  simp -implicitDefEqProofs [hjn,e]
abbrev Az6:Prop:=∀t:Int,R [I t] [] (B true) []
abbrev Axo:Prop:=∀t:Int,R [I t] [] (B (!BH t)) []
theorem AGQ:Az6 (Body D Au0):=by
 intro t
 simp -implicitDefEqProofs
theorem AEa (hR:Ib (D 279)):Axo (Body D AtI):=by
 intro t
 simp -implicitDefEqProofs
 refine Aa (hR t) ?_
 simp -implicitDefEqProofs
theorem AI7 (l:List Ext):kept (fun _=>true) l=l:=by simp[kept]
abbrev U5:Prop:=∀l:List Ext,OD l->R [.sl 1 2 l.length (l.flatMap Cc)] [] (.sl 0 2 l.length (l.flatMap Cc)) []
theorem AHE (h1:Az6 (D 350)) (hK:At9 D (D 298)):U5 (Body D Av9):=by
 intro l hl
 simp -implicitDefEqProofs
 refine Aa (hK l 350 [] (fun _=>true) hl Api Atd (fun t=>h1 t)) ?_
 simp -implicitDefEqProofs [AI7]
def Xy (l:List Ext):List Ext:=kept (fun t=> !BH t) l
def JP (l:List Ext) (tags:List Int):List Ext:=kept (fun t=>decide (t∈tags)) l
abbrev Lv:Prop:=∀l:List Ext,OD l->R [.sl 1 2 l.length (l.flatMap Cc)] [] (.sl 0 2 (Xy l).length ((Xy l).flatMap Cc)) []
theorem ADH (h1:Axo (D 373)) (hK:At9 D (D 298)):Lv (Body D Aue):=by
 intro l hl
 simp -implicitDefEqProofs
 refine Aa (hK l 373 [] (fun t=> !BH t) hl Api Atd (fun t=>h1 t)) ?_
 simp -implicitDefEqProofs [Xy]
abbrev QD:Prop:=∀(l:List Ext) (tags:List Int),OD l->tags.length<=maxLen->R [.sl 1 2 l.length (l.flatMap Cc),.sl 1 1 tags.length (ints tags)] [] (.sl 0 2 (JP l tags).length ((JP l tags).flatMap Cc)) []
abbrev AyO:Prop:=∀(t:Int) (tags:List Int),tags.length<=maxLen->R [I t,.rptr 1 [.sl 0 1 tags.length (ints tags)] 0] [] (B (decide (t∈tags))) []
theorem AzG {a:List Int} {r:List V} (h:Atz r):Atz (.rptr 1 [.sl 0 1 a.length (ints a)] 0::r):=AzW (fun H=>by simp) (fun H=>by simp) h
theorem AIz (hH:UQ (D 188)):AyO (Body D AvJ):=by
 intro t tags hl
 simp -implicitDefEqProofs
 refine Aa (hH tags t hl) ?_
 simp -implicitDefEqProofs
theorem AHN (h1:AyO (D 374)) (hK:At9 D (D 298)):QD (Body D AwQ):=by
 intro l tags hl ht
 simp -implicitDefEqProofs
 refine Aa (hK l 374 _ (fun t=>decide (t∈tags)) hl (AzG Api) (AzJ Atd) (fun t=>h1 t tags ht)) ?_
 simp -implicitDefEqProofs [JP]
theorem AiG (hH:UQ (D 166)):QD (Body D NE):=by
 intro l tags hl ht
 have hll:=hl.1
 have hres:JP l tags=kept (fun t=>decide (t∈tags)) l:=rfl
 rw[hres]
 generalize hp:(fun t=>decide (t∈tags))=p
 simp -implicitDefEqProofs
 refine Ag (fun k s=>∃j o1 o2 o3 o4,j+k=l.length/\s=⟨[.sl 1 2 l.length (l.flatMap Cc),.sl 1 1 tags.length (ints tags),.undef,.arr 5,I j,.undef,.undef],[.free,o1,o2,o3,o4,.arr 2 0 (kept p (l.take j)).length ((kept p (l.take j)).flatMap Cc)]⟩) ?_ (l.length) _ ⟨0,.free,.free,.free,.free,by simp,by simp[kept]⟩
 intro k s ⟨j,o1,o2,o3,o4,hj,hs⟩
 subst hs
 by_cases hjn:j<l.length
 ·have hw:=Cv (j:=j) (by omega)
  have hb:=P5 hl hjn
  have h1:l[j].body.length*8<=1099511627776:=by omega
  have hkl:=Rl (p:=p) (l:=l) (j:=j)
  have h2:((kept p (l.take j)).length+1)*32<=1099511627776:=by omega
  simp -implicitDefEqProofs [hjn]
  refine Aa (hH tags l[j].tag ht) ?_
  have hpe:decide (l[j].tag∈tags)=p l[j].tag:=by rw[<-hp]
  rw[hpe]
  by_cases he:p l[j].tag=true
  ·have hst:=NZ hjn he
   have hsl:=G7 hjn he
   simp -implicitDefEqProofs [he,hjn,h1,h2]
   exact⟨k-1,by omega,j+1,by omega,by simp[hw],by rw[hsl],by rw[<-hst]⟩
  ·have hst:=RG hjn he
   simp -implicitDefEqProofs [he]
   exact⟨k-1,by omega,j+1,by omega,by simp[hw],by rw[hst],by rw[hst]⟩
 ·have e:=Rq (p:=p) (l:=l) (j:=j) (by omega)
  simp -implicitDefEqProofs [hjn,e]
theorem Aak (hR:Ib (D 250)):Lv (Body D IX):=by
 intro l hl
 have hll:=hl.1
 have hres:Xy l=kept (fun t=> !BH t) l:=rfl
 rw[hres]
 generalize hp:(fun t=> !BH t)=p
 simp -implicitDefEqProofs
 refine Ag (fun k s=>∃j o1 o2 o3 o4,j+k=l.length/\s=⟨[.sl 1 2 l.length (l.flatMap Cc),.undef,.arr 5,I j,.undef,.undef],[.free,o1,o2,o3,o4,.arr 2 0 (kept p (l.take j)).length ((kept p (l.take j)).flatMap Cc)]⟩) ?_ (l.length) _ ⟨0,.free,.free,.free,.free,by simp,by simp[kept]⟩
 intro k s ⟨j,o1,o2,o3,o4,hj,hs⟩
 subst hs
 by_cases hjn:j<l.length
 ·have hw:=Cv (j:=j) (by omega)
  have hb:=P5 hl hjn
  have h1:l[j].body.length*8<=1099511627776:=by omega
  have hkl:=Rl (p:=p) (l:=l) (j:=j)
  have h2:((kept p (l.take j)).length+1)*32<=1099511627776:=by omega
  simp -implicitDefEqProofs [hjn]
  refine Aa (hR l[j].tag) ?_
  have hpe:(!BH l[j].tag)=p l[j].tag:=by rw[<-hp]
  by_cases he:p l[j].tag=true
  ·have hst:=NZ hjn he
   have hsl:=G7 hjn he
   have he':BH l[j].tag=false:=by rw[he]at hpe;simpa using hpe
   simp -implicitDefEqProofs [he',hjn,h1,h2]
   exact⟨k-1,by omega,j+1,by omega,by simp[hw],by rw[hsl],by rw[<-hst]⟩
  ·have hst:=RG hjn he
   have he':BH l[j].tag=true:=by simp at he;rw[he]at hpe;simpa using hpe
   simp -implicitDefEqProofs [he']
   exact⟨k-1,by omega,j+1,by omega,by simp[hw],by rw[hst],by rw[hst]⟩
 ·have e:=Rq (p:=p) (l:=l) (j:=j) (by omega)
  simp -implicitDefEqProofs [hjn,e]
theorem Aim (l:List Ext):JP l (Ba l)=l:=by
 unfold JP kept
 rw[List.filter_eq_self]
 intro x hx
 simp only[decide_eq_true_eq]
 exact List.mem_map.2 ⟨x,hx,rfl⟩
theorem QA (l:List Ext):(Ba l).length=l.length:=by simp[Ba]
theorem Ak8 (hT:UX (D 308)) (hK:QD (D 331)):U5 (Body D Nc):=by
 intro l hl
 have hll:=hl.1
 simp -implicitDefEqProofs
 refine Aa (hT l hll) ?_
 simp -implicitDefEqProofs
 refine Aa (hK l (Ba l) hl (by rw[QA];unfold maxLen;omega)) ?_
 simp -implicitDefEqProofs [Aim]
abbrev InV (a b c:Int):Prop:=b<=a/\a<=c
def JF (xs:List Int) (j:Nat):Bool:=(List.range j).all fun i=>decide (InV (xs.getD i 0) 1 9)&&(decide (i=0)||decide (xs.getD (i-1) 0<xs.getD i 0))
theorem Qu (xs:List Int) (j:Nat):JF xs (j+1)=(JF xs j&&(decide (InV (xs.getD j 0) 1 9)&&(decide (j=0)||decide (xs.getD (j-1) 0<xs.getD j 0)))):=by
 unfold JF
 rw[List.range_succ,List.all_append]
 simp
theorem Adi {xs:List Int} {j:Nat} (h:j<xs.length) (hn:JF xs (j+1)=false):JF xs xs.length=false:=by
 have:∀n,JF xs (j+1+n)=false:=by
  intro n
  induction n with
  | zero=>exact hn
  | succ n ih=>rw[show j+1+(n+1)=(j+1+n)+1 by omega,Qu,ih];rfl
 have:=this (xs.length-(j+1))
 rwa [show j+1+(xs.length-(j+1))=xs.length by omega]at this
theorem VG {xs:List Int} {j:Nat} (h:j<xs.length):xs.getD j 0=xs[j]:=by simp[h]
def AQ (xs:List Int):Bool:=JF xs xs.length&&decide (0<xs.length)
abbrev Dr:Prop:=∀xs:List Int,xs.length<=maxLen->R [.sl 1 1 xs.length (ints xs)] [] (B (AQ xs)) []
theorem AaQ (hI:Vf (D 71)):Dr (Body D I6):=by
 intro xs hl
 unfold maxLen at hl
 simp -implicitDefEqProofs
 refine Ag (fun k s=>∃j,j+k=xs.length/\JF xs j=true/\s=⟨[.sl 1 1 xs.length (ints xs),.undef,.sc (.int .i64 j),.undef,.undef],[]⟩) ?_ xs.length _ ⟨0,by simp,by simp[JF],by simp⟩
 intro k s ⟨j,hj,hr,hs⟩
 subst hs
 by_cases hjn:j<xs.length
 ·have hw:=Cv (j:=j) (by omega)
  have hst:=Qu xs j
  rw[hr,Bool.true_and,VG hjn]at hst
  simp -implicitDefEqProofs [hjn]
  refine Aa (hI _ _ _) ?_
  by_cases h1:InV xs[j] 1 9
  rotate_left
  ·have e:AQ xs=false:=by unfold AQ;rw[Adi hjn (by rw[hst];simp[h1])];rfl
   simp -implicitDefEqProofs [h1,e]
  by_cases h0:j=0
  ·subst h0
   simp -implicitDefEqProofs [h1]
   exact⟨k-1,by omega,1,by omega,by rw[hst];simp[h1],by simpa using hw⟩
  ·have hw2:IntKind.i64.wrap ((j:Int)-1)=((j-1:Nat):Int):=by rw[Ad (by omega) (by omega)];omega
   have h2:(0:Int)<j:=by omega
   have h2':0<j:=by omega
   have h3:j-1<xs.length:=by omega
   rw[VG h3]at hst
   by_cases h4:xs[j-1]<xs[j]
   ·have h4':¬xs[j]<=xs[j-1]:=by omega
    simp -implicitDefEqProofs [h1,h2,h2',hw2,h3,hjn,h4']
    exact⟨k-1,by omega,j+1,by omega,by rw[hst];simp[h1,h0,h4],by simp[hw]⟩
   ·have e:AQ xs=false:=by unfold AQ;rw[Adi hjn (by rw[hst];simp[h1,h0,h4])];rfl
    have h4':xs[j]<=xs[j-1]:=by omega
    simp -implicitDefEqProofs [h1,h2,h2',hw2,h3,hjn,h4',e]
 ·obtain rfl:j=xs.length:=by omega
  have e:AQ xs=decide (0<xs.length):=by unfold AQ;rw[hr];rfl
  by_cases h5:0<xs.length
  ·have h5':(0:Int)<xs.length:=by omega
   simp -implicitDefEqProofs [e,h5,h5']
  ·have h5':¬(0:Int)<xs.length:=by omega
   simp -implicitDefEqProofs [e,h5,h5']
theorem AEf (hI:Vf (D 114)):Dr (Body D Aum):=by
 intro xs hl
 unfold maxLen at hl
 simp -implicitDefEqProofs
 refine Ag (fun k s=>∃j v2 v3,j+k=xs.length/\JF xs j=true/\s=⟨[.sl 1 1 xs.length (ints xs),.undef,v2,v3,.sl 1 1 xs.length (ints xs),.sc (.int .i64 xs.length),.sc (.int .i64 j),.undef,.undef],[]⟩) ?_ xs.length _ ⟨0,.undef,.undef,by simp,by simp[JF],by simp⟩
 intro k s ⟨j,v2,v3,hj,hr,hs⟩
 subst hs
 by_cases hjn:j<xs.length
 ·have hw:=Cv (j:=j) (by omega)
  have hst:=Qu xs j
  rw[hr,Bool.true_and,VG hjn]at hst
  simp -implicitDefEqProofs [hjn]
  refine Aa (hI _ _ _) ?_
  by_cases h1:InV xs[j] 1 9
  rotate_left
  ·have e:AQ xs=false:=by unfold AQ;rw[Adi hjn (by rw[hst];simp[h1])];rfl
   simp -implicitDefEqProofs [h1,e]
  by_cases h0:j=0
  ·subst h0
   simp -implicitDefEqProofs [h1]
   exact⟨k-1,by omega,1,by omega,by rw[hst];simp[h1],by simpa using hw⟩
  ·have hw2:IntKind.i64.wrap ((j:Int)-1)=((j-1:Nat):Int):=by rw[Ad (by omega) (by omega)];omega
   have h2:(0:Int)<j:=by omega
   have h2':0<j:=by omega
   have h3:j-1<xs.length:=by omega
   rw[VG h3]at hst
   by_cases h4:xs[j-1]<xs[j]
   ·have h4':¬xs[j]<=xs[j-1]:=by omega
    simp -implicitDefEqProofs [h1,h2,h2',hw2,h3,hjn,h4']
    exact⟨k-1,by omega,j+1,by omega,by rw[hst];simp[h1,h0,h4],by simp[hw]⟩
   ·have e:AQ xs=false:=by unfold AQ;rw[Adi hjn (by rw[hst];simp[h1,h0,h4])];rfl
    have h4':xs[j]<=xs[j-1]:=by omega
    simp -implicitDefEqProofs [h1,h2,h2',hw2,h3,hjn,h4',e]
 ·obtain rfl:j=xs.length:=by omega
  have e:AQ xs=decide (0<xs.length):=by unfold AQ;rw[hr];rfl
  by_cases h5:0<xs.length
  ·have h5':(0:Int)<xs.length:=by omega
   simp -implicitDefEqProofs [e,h5,h5']
  ·have h5':¬(0:Int)<xs.length:=by omega
   simp -implicitDefEqProofs [e,h5,h5']
theorem LD {p:Int->Bool} {xs:List Int} {j:Nat} (h:j<xs.length):(xs.take (j+1)).filter p=(xs.take j).filter p++(if p xs[j]then [xs[j]]else []):=by
 have e:xs.take (j+1)=xs.take j++ [xs[j]]:=by simp
 rw[e,List.filter_append]
 by_cases hp:p xs[j]=true<;>simp[hp]
theorem N7 {p:Int->Bool} {xs:List Int} {j:Nat} (h:xs.length<=j):(xs.take j).filter p=xs.filter p:=by rw[List.take_of_length_le h]
theorem Oa {p:Int->Bool} {xs:List Int} {j:Nat}:((xs.take j).filter p).length<=j:=by
 have:=List.length_filter_le p (xs.take j)
 have h2:(xs.take j).length<=j:=by simp;omega
 omega
def common (a b:List Int):List Int:=a.filter fun v=>decide (v∈b)
def Co (a:List Int) (v:Int):List Int:=a.filter fun x=> !decide (x=v)
abbrev Rz:Prop:=∀a b:List Int,a.length<=4194304->b.length<=maxLen->R [.sl 1 1 a.length (ints a),.sl 1 1 b.length (ints b)] [] (.sl 0 1 (common a b).length (ints (common a b))) []
abbrev Ic:Prop:=∀(a:List Int) (v:Int),a.length<=4194304->R [.sl 1 1 a.length (ints a),I v] [] (.sl 0 1 (Co a v).length (ints (Co a v))) []
abbrev Aw5:Prop:=∀(a:List Int) (v:Int),a.length<=4194304->R [.sl 1 1 a.length (ints a),.sl 1 1 1 (ints [v])] [] (.sl 0 1 (Co a v).length (ints (Co a v))) []
theorem AgF (hH:UQ (D 166)):Rz (Body D Mc):=by
 intro a b ha hb'
 have hres:common a b=a.filter (fun v=>decide (v∈b)):=rfl
 rw[hres]
 simp -implicitDefEqProofs
 refine Ag (fun k s=>∃j o1 o2,j+k=a.length/\s=⟨[.sl 1 1 a.length (ints a),.sl 1 1 b.length (ints b),.undef,.arr 3,.sc (.int .i64 j),.undef,.undef],[.free,o1,o2,.arr 1 0 ((a.take j).filter (fun v=>decide (v∈b))).length (ints ((a.take j).filter (fun v=>decide (v∈b))))]⟩) ?_ a.length _ ⟨0,by simp⟩
 intro k s ⟨j,o1,o2,hj,hs⟩
 subst hs
 by_cases hjn:j<a.length
 ·have hw:=Cv (j:=j) (by omega)
  have hst:=LD (p:=fun v=>decide (v∈b)) hjn
  have hln:=Oa (p:=fun v=>decide (v∈b)) (xs:=a) (j:=j)
  have hb:(((a.take j).filter (fun v=>decide (v∈b))).length+1)*8<=1099511627776:=by omega
  simp -implicitDefEqProofs [hjn]
  refine Aa (hH b _ hb') ?_
  by_cases h1:a[j]∈b
  ·rw[if_pos (by simp[h1])]at hst
   simp -implicitDefEqProofs [h1,hjn,hb]
   exact⟨k-1,by omega,j+1,by omega,by simp[hw],by rw[hst];simp,by rw[hst]⟩
  ·rw[if_neg (by simp[h1]),List.append_nil]at hst
   simp -implicitDefEqProofs [h1,hjn,hb]
   exact⟨k-1,by omega,j+1,by omega,by simp[hw],by rw[hst],by rw[hst]⟩
 ·have hx:=N7 (p:=fun v=>decide (v∈b)) (xs:=a) (j:=j) (by omega)
  simp -implicitDefEqProofs [hjn,hx]
theorem AHB (hH:UQ (D 188)):Rz (Body D Awg):=by
 intro a b ha hb'
 have hres:common a b=a.filter (fun v=>decide (v∈b)):=rfl
 rw[hres]
 simp -implicitDefEqProofs
 refine Ag (fun k s=>∃j v4 o1 o2,j+k=a.length/\s=⟨[.undef,.sl 1 1 b.length (ints b),.undef,.arr 3,v4,.sl 1 1 a.length (ints a),.sc (.int .i64 a.length),.sc (.int .i64 j),.undef,.undef],[.free,o1,o2,.arr 1 0 ((a.take j).filter (fun v=>decide (v∈b))).length (ints ((a.take j).filter (fun v=>decide (v∈b))))]⟩) ?_ a.length _ ⟨0,by simp⟩
 intro k s ⟨j,v4,o1,o2,hj,hs⟩
 subst hs
 by_cases hjn:j<a.length
 ·have hw:=Cv (j:=j) (by omega)
  have hst:=LD (p:=fun v=>decide (v∈b)) hjn
  have hln:=Oa (p:=fun v=>decide (v∈b)) (xs:=a) (j:=j)
  have hb:(((a.take j).filter (fun v=>decide (v∈b))).length+1)*8<=1099511627776:=by omega
  simp -implicitDefEqProofs [hjn]
  refine Aa (hH b _ hb') ?_
  by_cases h1:a[j]∈b
  ·rw[if_pos (by simp[h1])]at hst
   simp -implicitDefEqProofs [h1,hjn,hb]
   exact⟨k-1,by omega,j+1,by omega,by simp[hw],by rw[hst];simp,by rw[hst]⟩
  ·rw[if_neg (by simp[h1]),List.append_nil]at hst
   simp -implicitDefEqProofs [h1,hjn,hb]
   exact⟨k-1,by omega,j+1,by omega,by simp[hw],by rw[hst],by rw[hst]⟩
 ·have hx:=N7 (p:=fun v=>decide (v∈b)) (xs:=a) (j:=j) (by omega)
  simp -implicitDefEqProofs [hjn,hx]
theorem Ad0:Ic (Body D Jy):=by
 intro a v ha
 have hres:Co a v=a.filter (fun x=> !decide (x=v)):=rfl
 rw[hres]
 simp -implicitDefEqProofs
 refine Ag (fun k s=>∃j o1 o2,j+k=a.length/\s=⟨[.sl 1 1 a.length (ints a),.sc (.int .i64 v),.undef,.arr 3,.sc (.int .i64 j),.undef,.undef],[.free,o1,o2,.arr 1 0 ((a.take j).filter (fun x=> !decide (x=v))).length (ints ((a.take j).filter (fun x=> !decide (x=v))))]⟩) ?_ a.length _ ⟨0,by simp⟩
 intro k s ⟨j,o1,o2,hj,hs⟩
 subst hs
 by_cases hjn:j<a.length
 ·have hw:=Cv (j:=j) (by omega)
  have hst:=LD (p:=fun x=> !decide (x=v)) hjn
  have hln:=Oa (p:=fun x=> !decide (x=v)) (xs:=a) (j:=j)
  have hb:(((a.take j).filter (fun x=> !decide (x=v))).length+1)*8<=1099511627776:=by omega
  simp -implicitDefEqProofs [hjn]
  by_cases h1:a[j]=v
  ·rw[if_neg (by simp[h1]),List.append_nil]at hst
   simp -implicitDefEqProofs [h1,hjn,hb]
   exact⟨k-1,by omega,j+1,by omega,by simp[hw],by rw[hst],by rw[hst]⟩
  ·rw[if_pos (by simp[h1])]at hst
   simp -implicitDefEqProofs [h1,hjn,hb]
   exact⟨k-1,by omega,j+1,by omega,by simp[hw],by rw[hst];simp,by rw[hst]⟩
 ·have hx:=N7 (p:=fun x=> !decide (x=v)) (xs:=a) (j:=j) (by omega)
  simp -implicitDefEqProofs [hjn,hx]
theorem AJl (hH:UQ (D 188)):Aw5 (Body D AtM):=by
 intro a v ha
 have hres:Co a v=a.filter (fun x=> !decide (x=v)):=rfl
 rw[hres]
 simp -implicitDefEqProofs
 refine Ag (fun k s=>∃j v4 o1 o2,j+k=a.length/\s=⟨[.undef,.sl 1 1 1 (ints [v]),.undef,.arr 3,v4,.sl 1 1 a.length (ints a),.sc (.int .i64 a.length),.sc (.int .i64 j),.undef,.undef],[.free,o1,o2,.arr 1 0 ((a.take j).filter (fun x=> !decide (x=v))).length (ints ((a.take j).filter (fun x=> !decide (x=v))))]⟩) ?_ a.length _ ⟨0,by simp⟩
 intro k s ⟨j,v4,o1,o2,hj,hs⟩
 subst hs
 by_cases hjn:j<a.length
 ·have hw:=Cv (j:=j) (by omega)
  have hst:=LD (p:=fun x=> !decide (x=v)) hjn
  have hln:=Oa (p:=fun x=> !decide (x=v)) (xs:=a) (j:=j)
  have hb:(((a.take j).filter (fun x=> !decide (x=v))).length+1)*8<=1099511627776:=by omega
  simp -implicitDefEqProofs [hjn]
  refine Aa (hH [v] _ (by unfold maxLen;simp)) ?_
  by_cases h1:a[j]=v
  ·rw[if_neg (by simp[h1]),List.append_nil]at hst
   simp -implicitDefEqProofs [h1,hjn,hb]
   exact⟨k-1,by omega,j+1,by omega,by simp[hw],by rw[hst],by rw[hst]⟩
  ·rw[if_pos (by simp[h1])]at hst
   simp -implicitDefEqProofs [h1,hjn,hb]
   exact⟨k-1,by omega,j+1,by omega,by simp[hw],by rw[hst];simp,by rw[hst]⟩
 ·have hx:=N7 (p:=fun x=> !decide (x=v)) (xs:=a) (j:=j) (by omega)
  simp -implicitDefEqProofs [hjn,hx]
def hB (h:Hello):Prop:=h.versions.length<=4194304/\OD h.exts
def Dt (h:Hello):Bool:=AQ h.versions&&Ej h.exts
abbrev Gr:Prop:=∀h:Hello,hB h->R [arg (Ck h)] [] (B (Dt h)) []
theorem Aip (hA:Dr (D 208)) (hE:JX (D 312)):Gr (Body D Nq):=by
 intro h hh
 simp -implicitDefEqProofs
 refine Aa (hA _ (by have:=hh.1;unfold maxLen;omega)) ?_
 by_cases h1:AQ h.versions=true
 rotate_left
 ·simp -implicitDefEqProofs [h1,Dt]
 simp -implicitDefEqProofs [h1]
 refine Aa (hE _ hh.2) ?_
 simp -implicitDefEqProofs [h1,Dt]
theorem AH4 (hA:Dr (D 232)) (hE:JX (D 320)):Gr (Body D AwM):=by
 intro h hh
 simp -implicitDefEqProofs
 refine Aa (hA _ (by have:=hh.1;unfold maxLen;omega)) ?_
 by_cases h1:AQ h.versions=true
 rotate_left
 ·simp -implicitDefEqProofs [h1,Dt]
 simp -implicitDefEqProofs [h1]
 refine Aa (hE _ hh.2) ?_
 simp -implicitDefEqProofs [h1,Dt]
abbrev Q9:Prop:=∀h:Hello,hB h->R [arg (Ck h)] [] (.agg (Ck h)) []
theorem AG3 (hE:U5 (D 318)):Q9 (Body D AvD):=by
 intro h hh
 have h1:h.versions.length*8<=1099511627776:=by have:=hh.1;omega
 simp -implicitDefEqProofs [h1]
 refine Aa (hE _ hh.2) ?_
 simp -implicitDefEqProofs
theorem Ah2 (hE:U5 (D 311)):Q9 (Body D MB):=by
 intro h hh
 have h1:h.versions.length*8<=1099511627776:=by have:=hh.1;omega
 simp -implicitDefEqProofs [h1]
 refine Aa (hE _ hh.2) ?_
 simp -implicitDefEqProofs
def lossy (b:EG) (x:Ext):Bool:=decide (x.tag∈b.drops)||(b.lists&&(!decide (x.tag∈b.strips)&& !decide (M6 x.tag 1 3)))
def Aoa (vs:List Int):Int:=vs.getLastD 0
def PK (b:EG) (h:Hello):Bool:=(decide (0<b.limit)&&decide (b.limit<Aoa h.versions))||h.exts.any (lossy b)
def stays (b:EG) (t:Int):Bool:= !decide (t∈b.strips)
def AU:Hello:=⟨[],[]⟩
def BV (b:EG) (h:Hello):Hello×Bool:=if IL b&&(Dt h&& !PK b h)then(⟨h.versions,kept (stays b) h.exts⟩,true)else(AU,false)
abbrev Vm:Prop:=∀(b:EG) (h:Hello),Kh b->hB h->R [arg (DT b),arg (Ck h)] [] (.tup [.agg (Ck (BV b h).1),B (BV b h).2]) []
theorem ZT {xs:List Int} (h:AQ xs=true):0<xs.length:=by
 unfold AQ at h
 simp only[Bool.and_eq_true,decide_eq_true_eq]at h
 exact h.2
theorem Ao7 {xs:List Int} (h:xs.length-1<xs.length):Aoa xs=xs[xs.length-1]:=by
 unfold Aoa
 rw[List.getLastD_eq_getLast?,List.getLast?_eq_getElem?,List.getElem?_eq_getElem h];rfl
theorem Ai4 (hX:XD (D 152)) (hE:Gr (D 285)) (hH:UQ (D 166)) (hI:Vf (D 71)):Vm (Body D Nv):=by
 intro b h hb hh
 obtain⟨hv,hx⟩:=hh
 have hll:=hx.1
 simp -implicitDefEqProofs
 refine Aa (hX b hb) ?_
 by_cases h1:IL b=true
 rotate_left
 ·simp -implicitDefEqProofs [h1,BV,AU]
 simp -implicitDefEqProofs [h1]
 refine Aa (hE h ⟨hv,hx⟩) ?_
 by_cases h2:Dt h=true
 rotate_left
 ·simp -implicitDefEqProofs [h2,BV,AU]
 have hpos:0<h.versions.length:=ZT (by unfold Dt at h2;simp only[Bool.and_eq_true]at h2;exact h2.1)
 have hn1:h.versions.length-1<h.versions.length:=by omega
 have hw1:IntKind.i64.wrap ((h.versions.length:Int)-1)=((h.versions.length-1:Nat):Int):=by rw[Ad (by omega) (by omega)];omega
 have htop:=Ao7 hn1
 by_cases h3:0<b.limit
 ·by_cases h4:b.limit<h.versions[h.versions.length-1]
  ·have e:BV b h=(AU,false):=by simp[BV,PK,htop,h3,h4]
   simp -implicitDefEqProofs [h2,h3,hw1,hn1,hpos,h4,e,AU]
  ·have h3':b.limit<Aoa h.versions↔False:=by rw[htop];simpa using h4
   have b0:h.versions.length*8<=1099511627776:=by omega
   simp -implicitDefEqProofs [h2,h3,hw1,hn1,hpos,h4,b0]
   refine Ag (fun k s=>∃j v8 o6 o7 o8 o9,j+k=h.exts.length/\(h.exts.take j).any (lossy b)=false/\s=⟨[.undef,.undef,.ptr 0 0,.ptr 1 0,.ptr 2 0,.undef,.ptr 5 0,I j,v8,.undef,.undef,.undef,.undef,.undef],[.var ((DT b).map (AO 1)),.var ((Ck h).map (AO 1)),.var [.nil 1,.nil 2],.dead,.arr 1 0 h.versions.length (ints h.versions),.var [.arr 4,.arr 10],o6,o7,o8,o9,.arr 2 0 (kept (stays b) (h.exts.take j)).length ((kept (stays b) (h.exts.take j)).flatMap Cc)]⟩) ?_ (h.exts.length) _ ⟨0,.undef,.free,.free,.free,.free,by simp,by simp,by simp[kept]⟩
   intro k s ⟨j,v8,o6,o7,o8,o9,hj,hp,hs⟩
   subst hs
   by_cases hjn:j<h.exts.length
   ·have hw:=Cv (j:=j) (by omega)
    have hbd:=P5 hx hjn
    have b1:h.exts[j].body.length*8<=1099511627776:=by omega
    have hkl:=Rl (p:=stays b) (l:=h.exts) (j:=j)
    have b2:((kept (stays b) (h.exts.take j)).length+1)*32<=1099511627776:=by omega
    have hst:=Abh (p:=lossy b) hjn
    rw[hp,Bool.false_or]at hst
    simp -implicitDefEqProofs [hjn]
    refine Aa (hH _ _ hb.2) ?_
    simp -implicitDefEqProofs
    refine Aa (hH _ _ hb.1) ?_
    by_cases g1:h.exts[j].tag∈b.drops
    ·have e:BV b h=(AU,false):=by
      have:=QR (p:=lossy b) hjn (by simp[lossy,g1])
      simp[BV,PK,this]
     simp -implicitDefEqProofs [g1,e,AU]
    by_cases g2:h.exts[j].tag∈b.strips
    ·have hl:lossy b h.exts[j]=false:=by simp[lossy,g1,g2]
     have hk:=RG (p:=stays b) hjn (by simp[stays,g2])
     by_cases g3:b.lists=true
     ·simp -implicitDefEqProofs [g1,g2,g3]
      exact⟨k-1,by omega,j+1,by omega,by simpa using hst.trans hl,by simp[hw],by rw[hk],by rw[hk]⟩
     ·simp -implicitDefEqProofs [g1,g2,g3]
      exact⟨k-1,by omega,j+1,by omega,by simpa using hst.trans hl,by simp[hw],by rw[hk],by rw[hk]⟩
    have hk:=NZ (p:=stays b) hjn (by simp[stays,g2])
    have hkl:=G7 (p:=stays b) hjn (by simp[stays,g2])
    by_cases g3:b.lists=true
    rotate_left
    ·have hl:lossy b h.exts[j]=false:=by simp[lossy,g1,g2,g3]
     simp -implicitDefEqProofs [g1,g2,g3,hjn,b1,b2]
     exact⟨k-1,by omega,j+1,by omega,by simpa using hst.trans hl,by simp[hw],by rw[hkl],by rw[<-hk]⟩
    simp -implicitDefEqProofs [g1,g2,g3]
    refine Aa (hI _ _ _) ?_
    by_cases g4:M6 h.exts[j].tag 1 3
    ·have hl:lossy b h.exts[j]=false:=by simp[lossy,g1,g2,g3,g4]
     simp -implicitDefEqProofs [g4,hjn,b1,b2]
     exact⟨k-1,by omega,j+1,by omega,by simpa using hst.trans hl,by simp[hw],by rw[hkl],by rw[<-hk]⟩
    ·have e:BV b h=(AU,false):=by
      have:=QR (p:=lossy b) hjn (by simp[lossy,g1,g2,g3,g4])
      simp[BV,PK,this]
     simp -implicitDefEqProofs [g4,e,AU]
   ·have hje:j=h.exts.length:=by omega
    have ea:h.exts.any (lossy b)=false:=any_none (by omega) hp
    have ek:=Rq (p:=stays b) (l:=h.exts) (j:=j) (by omega)
    have e:BV b h=(⟨h.versions,kept (stays b) h.exts⟩,true):=by simp only[BV,h1,h2,PK,ea,h3'];simp
    simp -implicitDefEqProofs [hjn,e,ek]
 ·have b0:h.versions.length*8<=1099511627776:=by omega
  simp -implicitDefEqProofs [h2,h3,b0]
  refine Ag (fun k s=>∃j v8 o6 o7 o8 o9,j+k=h.exts.length/\(h.exts.take j).any (lossy b)=false/\s=⟨[.undef,.undef,.ptr 0 0,.ptr 1 0,.ptr 2 0,.undef,.ptr 5 0,I j,v8,.undef,.undef,.undef,.undef,.undef],[.var ((DT b).map (AO 1)),.var ((Ck h).map (AO 1)),.var [.nil 1,.nil 2],.dead,.arr 1 0 h.versions.length (ints h.versions),.var [.arr 4,.arr 10],o6,o7,o8,o9,.arr 2 0 (kept (stays b) (h.exts.take j)).length ((kept (stays b) (h.exts.take j)).flatMap Cc)]⟩) ?_ (h.exts.length) _ ⟨0,.undef,.free,.free,.free,.free,by simp,by simp,by simp[kept]⟩
  intro k s ⟨j,v8,o6,o7,o8,o9,hj,hp,hs⟩
  subst hs
  by_cases hjn:j<h.exts.length
  ·have hw:=Cv (j:=j) (by omega)
   have hbd:=P5 hx hjn
   have b1:h.exts[j].body.length*8<=1099511627776:=by omega
   have hkl:=Rl (p:=stays b) (l:=h.exts) (j:=j)
   have b2:((kept (stays b) (h.exts.take j)).length+1)*32<=1099511627776:=by omega
   have hst:=Abh (p:=lossy b) hjn
   rw[hp,Bool.false_or]at hst
   simp -implicitDefEqProofs [hjn]
   refine Aa (hH _ _ hb.2) ?_
   simp -implicitDefEqProofs
   refine Aa (hH _ _ hb.1) ?_
   by_cases g1:h.exts[j].tag∈b.drops
   ·have e:BV b h=(AU,false):=by
     have:=QR (p:=lossy b) hjn (by simp[lossy,g1])
     simp[BV,PK,this]
    simp -implicitDefEqProofs [g1,e,AU]
   by_cases g2:h.exts[j].tag∈b.strips
   ·have hl:lossy b h.exts[j]=false:=by simp[lossy,g1,g2]
    have hk:=RG (p:=stays b) hjn (by simp[stays,g2])
    by_cases g3:b.lists=true
    ·simp -implicitDefEqProofs [g1,g2,g3]
     exact⟨k-1,by omega,j+1,by omega,by simpa using hst.trans hl,by simp[hw],by rw[hk],by rw[hk]⟩
    ·simp -implicitDefEqProofs [g1,g2,g3]
     exact⟨k-1,by omega,j+1,by omega,by simpa using hst.trans hl,by simp[hw],by rw[hk],by rw[hk]⟩
   have hk:=NZ (p:=stays b) hjn (by simp[stays,g2])
   have hkl:=G7 (p:=stays b) hjn (by simp[stays,g2])
   by_cases g3:b.lists=true
   rotate_left
   ·have hl:lossy b h.exts[j]=false:=by simp[lossy,g1,g2,g3]
    simp -implicitDefEqProofs [g1,g2,g3,hjn,b1,b2]
    exact⟨k-1,by omega,j+1,by omega,by simpa using hst.trans hl,by simp[hw],by rw[hkl],by rw[<-hk]⟩
   simp -implicitDefEqProofs [g1,g2,g3]
   refine Aa (hI _ _ _) ?_
   by_cases g4:M6 h.exts[j].tag 1 3
   ·have hl:lossy b h.exts[j]=false:=by simp[lossy,g1,g2,g3,g4]
    simp -implicitDefEqProofs [g4,hjn,b1,b2]
    exact⟨k-1,by omega,j+1,by omega,by simpa using hst.trans hl,by simp[hw],by rw[hkl],by rw[<-hk]⟩
   ·have e:BV b h=(AU,false):=by
     have:=QR (p:=lossy b) hjn (by simp[lossy,g1,g2,g3,g4])
     simp[BV,PK,this]
    simp -implicitDefEqProofs [g4,e,AU]
  ·have hje:j=h.exts.length:=by omega
   have ea:h.exts.any (lossy b)=false:=any_none (by omega) hp
   have ek:=Rq (p:=stays b) (l:=h.exts) (j:=j) (by omega)
   have e:BV b h=(⟨h.versions,kept (stays b) h.exts⟩,true):=by simp only[BV,h1,h2,PK,ea,h3];simp
   simp -implicitDefEqProofs [hjn,e,ek]
abbrev AyQ:Prop:=∀(t:Int) (b:EG),Kh b->R [I t,.rptr 1 (DT b) 0] [] (B (stays b t)) []
theorem AH3 (hH:UQ (D 188)):AyQ (Body D Avq):=by
 intro t b hb
 simp -implicitDefEqProofs
 refine Aa (hH b.strips t hb.2) ?_
 simp -implicitDefEqProofs [stays]
abbrev AC7:Prop:=∀(x:Ext) (b:EG),Kh b->R [arg (Cc x),.rptr 1 (DT b) 0] [] (B (lossy b x)) []
theorem AKh (hH:UQ (D 188)) (hI:Vf (D 114)):AC7 (Body D AwI):=by
 intro x b hb
 simp -implicitDefEqProofs
 refine Aa (hH b.drops x.tag hb.1) ?_
 by_cases g1:x.tag∈b.drops
 ·simp -implicitDefEqProofs [g1,lossy]
 by_cases g3:b.lists=true
 rotate_left
 ·simp -implicitDefEqProofs [g1,g3,lossy]
 simp -implicitDefEqProofs [g1,g3]
 refine Aa (hH b.strips x.tag hb.2) ?_
 by_cases g2:x.tag∈b.strips
 ·simp -implicitDefEqProofs [g1,g2,g3,lossy]
 simp -implicitDefEqProofs [g2]
 refine Aa (hI _ _ _) ?_
 simp -implicitDefEqProofs [g1,g2,g3,lossy]
def AKX (xs:List Int):Int:=xs.foldl max (xs.headD 0)
abbrev AK8:Prop:=∀xs:List Int,0<xs.length->xs.length<=4194304->R [.sl 1 1 xs.length (ints xs)] [] (I (AKX xs)) []
abbrev AIh:Prop:=∀xs:List Int,xs.length<=4194304->R [.sl 1 1 xs.length (ints xs)] [] (.sl 0 1 xs.length (ints xs)) []
abbrev AFW:Prop:=∀(b:EG) (h:Hello),Kh b->hB h->IL b=true->AQ h.versions=true->R [arg (DT b),arg (Ck h)] [] (B (PK b h)) []
theorem AA5:∀(xs:List Int) (a:Int),(∀x,x∈xs->a<=x)->(∀i,(h:i+1<xs.length)->xs[i]<=xs[i+1])->xs.foldl max a=(xs.getLast?.getD a)
 | [],a,_,_=>rfl
 | x::r,a,h1,h2=>by
  have hx:=h1 x (by simp)
  have hr:∀y,y∈r->x<=y:=by
   intro y hy
   obtain⟨n,hn,rfl⟩:=List.getElem_of_mem hy
   have key:∀m,(hm:m<r.length)->x<=r[m]:=by
    intro m
    induction m with
    | zero=>intro hm;have:=h2 0 (by simp;omega);simpa using this
    | succ m ih=>
     intro hm
     have h3:=ih (by omega)
     have:=h2 (m+1) (by simp;omega)
     simp only[List.getElem_cons_succ]at this
     omega
   exact key n hn
  have ih:=AA5 r x hr (fun i h=>by have:=h2 (i+1) (by simp;omega);simpa using this)
  simp only[List.foldl_cons]
  rw[show max a x=x by omega,ih]
  cases r with
  | nil=>rfl
  | cons y s=>simp[List.getLast?_cons_cons,List.getLast?_cons]
theorem AFx {xs:List Int} (h:AQ xs=true) {i:Nat} (hi:i+1<xs.length):xs[i]<xs[i+1]:=by
 unfold AQ JF at h
 simp only[Bool.and_eq_true,List.all_eq_true,List.mem_range]at h
 have:=(h.1 (i+1) hi).2
 rw[VG hi,show i+1-1=i by omega,VG (by omega)]at this
 simpa using this
theorem AI6 {xs:List Int} (h:AQ xs=true):AKX xs=Aoa xs:=by
 cases xs with
 | nil=>rfl
 | cons x r=>
  unfold AKX Aoa
  simp only[List.headD_cons,List.foldl_cons]
  rw[show max x x=x by omega,AA5 r x ?_ ?_]
  ·cases r with
   | nil=>rfl
   | cons y s=>simp[List.getLastD_eq_getLast?,List.getLast?_cons_cons,List.getLast?_cons]
  ·intro y hy
   obtain⟨n,hn,rfl⟩:=List.getElem_of_mem hy
   induction n with
   | zero=>have:=AFx h (i:=0) (by simp;omega);simp at this;omega
   | succ m ih=>
    have h3:=ih (by omega) (List.getElem_mem _)
    have:=AFx h (i:=m+1) (by simp;omega)
    simp only[List.getElem_cons_succ]at this
    omega
  ·intro i hi
   have:=AFx h (i:=i+1) (by simp;omega)
   simp only[List.getElem_cons_succ]at this
   omega
theorem AyM {b:EG} {r:List V} (h:Atz r):Atz (.rptr 1 (DT b) 0::r):=AzW (fun H=>by simp) (fun H=>by simp) h
theorem AKS (hM:AK8 (D 325)) (h1:AC7 (D 326)) (hC:Atu D (D 327)):AFW (Body D Aya):=by
 intro b h hb hh hbox hver
 obtain⟨hv,hx⟩:=hh
 have hll:=hx.1
 have hpos:=ZT hver
 have hlim:0<=b.limit:=by unfold IL at hbox;simp only[Bool.and_eq_true,decide_eq_true_eq]at hbox;exact hbox.1.1.1.1.1
 by_cases h0:b.limit=0
 ·obtain⟨lim,dr,st,li⟩:=b
  dsimp only at h0
  subst h0
  simp -implicitDefEqProofs
  refine Aa (hC h.exts 326 _ (lossy ⟨0,dr,st,li⟩) (by unfold maxLen;omega) (AyM (b:=⟨0,dr,st,li⟩) Api) (fun j hj=>h1 h.exts[j] ⟨0,dr,st,li⟩ hb)) ?_
  simp -implicitDefEqProofs [PK]
 ·have hn:0<b.limit:=by omega
  simp -implicitDefEqProofs [h0]
  refine Aa (hM h.versions hpos hv) ?_
  rw[AI6 hver]
  by_cases h4:b.limit<Aoa h.versions
  ·simp -implicitDefEqProofs [h0,h4,PK,hn]
  ·simp -implicitDefEqProofs [h0,h4]
   refine Aa (hC h.exts 326 _ (lossy b) (by unfold maxLen;omega) (AyM Api) (fun j hj=>h1 h.exts[j] b hb)) ?_
   simp -implicitDefEqProofs [PK,hn,h4]
theorem AH8 (hX:XD (D 183)) (hE:Gr (D 292)) (hL:AFW (D 295)) (hC:AIh (D 296)) (h1':AyQ (D 297)) (hK:At9 D (D 298)):Vm (Body D AwK):=by
 intro b h hb hh
 simp -implicitDefEqProofs
 refine Aa (hX b hb) ?_
 by_cases h1:IL b=true
 rotate_left
 ·simp -implicitDefEqProofs [h1,BV,AU]
 simp -implicitDefEqProofs [h1]
 refine Aa (hE h hh) ?_
 by_cases h2:Dt h=true
 rotate_left
 ·simp -implicitDefEqProofs [h2,BV,AU]
 have hver:AQ h.versions=true:=by unfold Dt at h2;simp only[Bool.and_eq_true]at h2;exact h2.1
 simp -implicitDefEqProofs [h2]
 refine Aa (hL b h hb hh h1 hver) ?_
 by_cases h3:PK b h=true
 ·simp -implicitDefEqProofs [h3,BV,AU]
 have e:BV b h=(⟨h.versions,kept (stays b) h.exts⟩,true):=by simp[BV,h1,h2,h3]
 simp -implicitDefEqProofs [h3]
 refine Aa (hC h.versions hh.1) ?_
 simp -implicitDefEqProofs
 refine Aa (hK h.exts 297 _ (stays b) hh.2 (AyM Api) (AzJ Atd) (fun t=>h1' t b hb)) ?_
 simp -implicitDefEqProofs [e]
def Gd:List EG->Hello->Hello×Bool
 | [],h=>(h,true)
 | b::r,h=>if(BV b h).2=true then Gd r (BV b h).1 else(AU,false)
theorem AfO {path:List EG} {j:Nat} {x:Hello} (h:j<path.length):Gd (path.drop j) x=if(BV path[j] x).2=true then Gd (path.drop (j+1)) (BV path[j] x).1 else(AU,false):=by
 rw[List.drop_eq_getElem_cons h];rfl
theorem Aid {path:List EG} {j:Nat} {x:Hello} (h:path.length<=j):Gd (path.drop j) x=(x,true):=by rw[List.drop_eq_nil_of_le h];rfl
def Bd (path:List EG) (h:Hello):Hello×Bool:=if decide (path.length<=4)&&Dt h then Gd path h else(AU,false)
theorem Aba:hB AU:=⟨by simp[AU],Afg⟩
theorem Ajy {b:EG} {h:Hello} (hh:hB h):hB (BV b h).1:=by
 unfold BV
 split
 ·exact⟨hh.1,QV hh.2 _⟩
 ·exact Aba
theorem AHP {b:EG} {h:Hello} (hk:(BV b h).2=false):(BV b h).1=AU:=by
 unfold BV at *
 split at hk
 ·cases hk
 ·rename_i hc;rw[if_neg hc]
abbrev Jj:Prop:=∀(path:List EG) (h:Hello),lnS Kh path->hB h->R [.sl 1 4 path.length (path.flatMap DT),arg (Ck h)] [] (.tup [.agg (Ck (Bd path h).1),B (Bd path h).2]) []
theorem Ahg (hE:Gr (D 285)) (hC:Q9 (D 301)) (hP:Vm (D 258)):Jj (Body D Mk):=by
 intro path h hb hh
 have hl:=hb.1
 unfold maxLen at hl
 by_cases h1:path.length<=4
 rotate_left
 ·have h1':(4:Int)<path.length:=by omega
  simp -implicitDefEqProofs [h1',h1,Bd,AU]
 have h1':¬(4:Int)<path.length:=by omega
 simp -implicitDefEqProofs [h1']
 refine Aa (hE h hh) ?_
 by_cases h2:Dt h=true
 rotate_left
 ·simp -implicitDefEqProofs [h2,h1,Bd,AU]
 have e:Bd path h=Gd path h:=by simp[Bd,h1,h2]
 rw[e]
 simp -implicitDefEqProofs [h2]
 refine Aa (hC h hh) ?_
 simp -implicitDefEqProofs
 refine Ag (fun k s=>∃j x o5 o6 o7,j+k=path.length/\hB x/\Gd path h=Gd (path.drop j) x/\s=⟨[.sl 1 4 path.length (path.flatMap DT),.undef,.undef,.ptr 1 0,.undef,.ptr 4 0,I j,.undef,.undef,.undef,.undef,.undef],[.var ((Ck h).map (AO 1)),.var [.nil 1,.nil 2],.free,.free,.var [.arr 8,.arr 9],o5,o6,o7,.arr 1 0 x.versions.length (ints x.versions),.arr 2 0 x.exts.length (x.exts.flatMap Cc)]⟩) ?_ (path.length) _ ⟨0,h,.free,.free,.free,by simp,hh,by simp,by simp⟩
 intro k s ⟨j,x,o5,o6,o7,hj,hx,hg,hs⟩
 subst hs
 by_cases hjn:j<path.length
 ·have hw:=Cv (j:=j) (by omega)
  rw[AfO hjn]at hg
  simp -implicitDefEqProofs [hjn]
  refine Aa (hP path[j] x (hb.2 j hjn) hx) ?_
  have hx':=Ajy (b:=path[j]) hx
  generalize BV path[j] x=r at hg hx'
  by_cases hk:r.2=true
  ·rw[if_pos hk]at hg
   simp -implicitDefEqProofs [hk]
   refine⟨k-1,by omega,j+1,by omega,r.1,hx',?_⟩
   simp[hw,hg]
  ·rw[if_neg hk]at hg
   simp -implicitDefEqProofs [hk,hg,AU]
 ·rw[Aid (by omega)]at hg
  simp -implicitDefEqProofs [hjn,hg]
theorem AGG (hE:Gr (D 292)) (hC:Q9 (D 293)) (hP:Vm (D 294)):Jj (Body D Awk):=by
 intro path h hb hh
 have hl:=hb.1
 unfold maxLen at hl
 simp -implicitDefEqProofs
 refine Aa (hE h hh) ?_
 by_cases h2:Dt h=true
 rotate_left
 ·simp -implicitDefEqProofs [h2,Bd,AU]
 by_cases h1:path.length<=4
 rotate_left
 ·have h1':(4:Int)<path.length:=by omega
  simp -implicitDefEqProofs [h2,h1',h1,Bd,AU]
 have h1':¬(4:Int)<path.length:=by omega
 have e:Bd path h=Gd path h:=by simp[Bd,h1,h2]
 rw[e]
 simp -implicitDefEqProofs [h2,h1']
 refine Aa (hC h hh) ?_
 simp -implicitDefEqProofs
 refine Ag (fun k s=>∃j x ok o5 o6,j+k=path.length/\hB x/\Gd path h=(if ok=true then Gd (path.drop j) x else(AU,false))/\(ok=false->x=AU)/\s=⟨[.sl 1 4 path.length (path.flatMap DT),.undef,.undef,.ptr 1 0,.undef,.ptr 4 0,B ok,I j,.undef,.undef],[.var ((Ck h).map (AO 1)),.var [.nil 1,.nil 2],.free,.free,.var [.arr 7,.arr 8],o5,o6,.arr 1 0 x.versions.length (ints x.versions),.arr 2 0 x.exts.length (x.exts.flatMap Cc)]⟩) ?_ (path.length) _ ⟨0,h,true,.free,.free,by simp,hh,by simp,by simp,by simp⟩
 intro k s ⟨j,x,ok,o5,o6,hj,hx,hg,hno,hs⟩
 subst hs
 by_cases hok:ok=true
 rotate_left
 ·rw[if_neg hok]at hg
  have hok':ok=false:=by simpa using hok
  have hno':=hno hok'
  subst hok'
  subst hno'
  by_cases hjn:j<path.length
  ·simp -implicitDefEqProofs [hjn,hg,AU]
  ·simp -implicitDefEqProofs [hjn,hg,AU]
 rw[if_pos hok]at hg
 subst hok
 by_cases hjn:j<path.length
 ·have hw:=Cv (j:=j) (by omega)
  rw[AfO hjn]at hg
  simp -implicitDefEqProofs [hjn]
  refine Aa (hP path[j] x (hb.2 j hjn) hx) ?_
  have hx':=Ajy (b:=path[j]) hx
  have hno':=AHP (b:=path[j]) (h:=x)
  generalize BV path[j] x=r at hg hx' hno'
  simp -implicitDefEqProofs
  refine⟨k-1,by omega,j+1,by omega,r.1,hx',?_⟩
  simp[hw,hg,hno']
  by_cases hr:r.2=true
  ·right;exact⟨fun h=>by simp[hr]at h,hr⟩
  ·left;exact⟨fun h=>absurd h hr,hno' (by simpa using hr),by simpa using hr⟩
 ·rw[Aid (by omega)]at hg
  simp -implicitDefEqProofs [hjn,hg]
def Aon (b:EG):Bool:=decide (b.limit=0)&&(decide (b.drops.length=0)&&(decide (b.strips.length=0)&& !b.lists))
abbrev AAU:Prop:=∀b:EG,Kh b->R [arg (DT b)] [] (B (Aon b)) []
theorem APi {b:EG} (h:Aon b=true):IL b=true:=by
 unfold Aon at h
 simp only[Bool.and_eq_true,decide_eq_true_eq]at h
 obtain⟨h1,h2,h3,_⟩:=h
 have h2':=List.eq_nil_of_length_eq_zero h2
 have h3':=List.eq_nil_of_length_eq_zero h3
 simp[IL,h1,h2',h3',allIn]
theorem AIx:AAU (Body D AwT):=by
 intro b hb
 by_cases g1:b.limit=0
 rotate_left
 ·simp -implicitDefEqProofs [g1,Aon,Aqs]
 by_cases g2:b.drops.length=0
 rotate_left
 ·have g2':¬(b.drops.length:Int)=0:=by omega
  simp -implicitDefEqProofs [g1,g2,g2',Aon,Aqs]
 have g2':(b.drops.length:Int)=0:=by omega
 by_cases g3:b.strips.length=0
 rotate_left
 ·have g3':¬(b.strips.length:Int)=0:=by omega
  simp -implicitDefEqProofs [g1,g2,g2',g3,g3',Aon,Aqs]
 have g3':(b.strips.length:Int)=0:=by omega
 simp -implicitDefEqProofs [g1,g2,g2',g3,g3',Aon,Aqs]
theorem AO4 (hX:XD (D 152)):AAU (Body D AMf):=by
 intro b hb
 simp -implicitDefEqProofs
 refine Aa (hX b hb) ?_
 by_cases h1:IL b=true
 rotate_left
 ·have e:Aon b=false:=by
   by_cases h:Aon b=true
   ·exact absurd (APi h) h1
   ·simpa using h
  simp -implicitDefEqProofs [h1,e]
 by_cases g1:b.limit=0
 rotate_left
 ·simp -implicitDefEqProofs [g1,Aon,h1,Aqs]
 by_cases g2:b.drops.length=0
 rotate_left
 ·have g2':¬(b.drops.length:Int)=0:=by omega
  simp -implicitDefEqProofs [g1,g2,g2',Aon,h1,Aqs]
 have g2':(b.drops.length:Int)=0:=by omega
 by_cases g3:b.strips.length=0
 rotate_left
 ·have g3':¬(b.strips.length:Int)=0:=by omega
  simp -implicitDefEqProofs [g1,g2,g2',g3,g3',Aon,h1,Aqs]
 have g3':(b.strips.length:Int)=0:=by omega
 simp -implicitDefEqProofs [g1,g2,g2',g3,g3',Aon,h1,Aqs]
def AfS (path:List EG):Bool:=decide (path.length<=4)&&path.all Aon
abbrev AvU:Prop:=∀path:List EG,lnS Kh path->R [.sl 1 4 path.length (path.flatMap DT)] [] (B (AfS path)) []
theorem NP {α:Type} {p:α->Bool} {xs:List α} {j:Nat} (h:j<xs.length) (hp:p xs[j]=false):xs.all p=false:=List.all_eq_false.2 ⟨_,List.getElem_mem h,by simp[hp]⟩
theorem Qm {α:Type} {p:α->Bool} {xs:List α} {j:Nat} (h:j<xs.length):(xs.take (j+1)).all p=((xs.take j).all p&&p xs[j]):=by
 have e:xs.take (j+1)=xs.take j++ [xs[j]]:=by simp
 rw[e,List.all_append];simp
theorem VW {α:Type} {p:α->Bool} {xs:List α} {j:Nat} (h:xs.length<=j):(xs.take j).all p=xs.all p:=by rw[List.take_of_length_le h]
theorem ANJ (hC:AAU (D 259)):AvU (Body D AHD):=by
 intro path hb
 have hl:=hb.1
 unfold maxLen at hl
 simp -implicitDefEqProofs
 refine Ag (fun k s=>∃j,j+k=path.length/\(path.take j).all Aon=true/\s=⟨[.sl 1 4 path.length (path.flatMap DT),.undef,I j,.undef,.undef],[]⟩) ?_ (path.length) _ ⟨0,by simp,by simp,by simp⟩
 intro k s ⟨j,hj,hp,hs⟩
 subst hs
 by_cases hjn:j<path.length
 ·have hw:=Cv (j:=j) (by omega)
  have hst:=Qm (p:=Aon) hjn
  rw[hp,Bool.true_and]at hst
  simp -implicitDefEqProofs [hjn]
  refine Aa (hC path[j] (hb.2 j hjn)) ?_
  by_cases h1:Aon path[j]=true
  ·simp -implicitDefEqProofs [h1]
   exact⟨k-1,by omega,j+1,by omega,by simpa using hst.trans h1,by simp[hw]⟩
  ·have e:AfS path=false:=by unfold AfS;rw[NP hjn (by simpa using h1)];simp
   simp -implicitDefEqProofs [h1,e]
 ·have e:AfS path=decide (path.length<=4):=by unfold AfS;rw[<-VW (j:=j) (by omega),hp];simp
  by_cases h1:path.length<=4
  ·have h1':(path.length:Int)<=4:=by omega
   simp -implicitDefEqProofs [hjn,e,h1,h1']
  ·have h1':¬(path.length:Int)<=4:=by omega
   simp -implicitDefEqProofs [hjn,e,h1,h1']
abbrev Au7:Prop:=∀b:EG,Kh b->R [arg (DT b)] [] (B (!Aon b)) []
theorem AEd (hC:AAU (D 299)):Au7 (Body D AtG):=by
 intro b hb
 simp -implicitDefEqProofs
 refine Aa (hC b hb) ?_
 simp -implicitDefEqProofs
theorem ADh (h1:Au7 (D 278)) (hC:As3 D (D 272)):AvU (Body D Aul):=by
 intro path hb
 have hl:=hb.1
 by_cases g1:path.length<=4
 rotate_left
 ·have g1':¬(path.length:Int)<=4:=by omega
  simp -implicitDefEqProofs [g1',g1,AfS]
 have g1':(path.length:Int)<=4:=by omega
 simp -implicitDefEqProofs [g1']
 refine Aa (hC path 278 [] (fun b=> !Aon b) hl Api (fun j hj=>h1 path[j] (hb.2 j hj))) ?_
 have e:(path.any fun b=> !Aon b)= !path.all Aon:=by rw[List.all_eq_not_any_not];simp
 rw[e]
 generalize hq:path.all Aon=q
 simp -implicitDefEqProofs [AfS,g1,hq]
abbrev JZ:Prop:=∀xs:List Int,xs.length<=4194304->R [.sl 1 1 xs.length (ints xs)] [] (.agg (Ck ⟨xs,[]⟩)) []
theorem Ac8:JZ (Body D Jo):=by
 intro xs h
 have h1:xs.length*8<=1099511627776:=by omega
 simp -implicitDefEqProofs [h1]
theorem AEJ:JZ (Body D AuN):=by
 intro xs h
 have h1:xs.length*8<=1099511627776:=by omega
 simp -implicitDefEqProofs [h1]
def isOpen (path:List EG) (vs:List Int):Bool:=AQ vs&&(Bd path ⟨vs.take 1,[]⟩).2
abbrev J4:Prop:=∀(path:List EG) (vs:List Int),lnS Kh path->vs.length<=4194304->R [.sl 1 4 path.length (path.flatMap DT),.sl 1 1 vs.length (ints vs)] [] (B (isOpen path vs)) []
theorem AcL (hA:Dr (D 208)) (hH:JZ (D 256)) (hP:Jj (D 286)):J4 (Body D JD):=by
 intro path vs hb hv
 simp -implicitDefEqProofs
 refine Aa (hA vs (by unfold maxLen;omega)) ?_
 by_cases h1:AQ vs=true
 rotate_left
 ·simp -implicitDefEqProofs [h1,isOpen]
 have hpos:=ZT h1
 have h1l:(1:Int)<=vs.length:=by omega
 have h1n:1<=vs.length:=by omega
 have hlen:(vs.take 1).length=1:=by simp;omega
 have hmin:min 1 vs.length=1:=by omega
 simp -implicitDefEqProofs [h1,h1l,h1n]
 have hh:=hH (vs.take 1) (by omega)
 rw[hlen]at hh
 refine Aa (hh) ?_
 simp -implicitDefEqProofs [hmin]
 have hp:=hP path ⟨vs.take 1,[]⟩ hb ⟨by simp;omega,Afg⟩
 simp -implicitDefEqProofs [hmin]at hp
 refine Aa (hp) ?_
 simp -implicitDefEqProofs [isOpen,h1]
theorem AEI (hA:Dr (D 232)) (hH:JZ (D 273)) (hP:Jj (D 274)):J4 (Body D AuH):=by
 intro path vs hb hv
 simp -implicitDefEqProofs
 refine Aa (hA vs (by unfold maxLen;omega)) ?_
 by_cases h1:AQ vs=true
 rotate_left
 ·simp -implicitDefEqProofs [h1,isOpen]
 have hpos:=ZT h1
 have h1l:(1:Int)<=vs.length:=by omega
 have h1n:1<=vs.length:=by omega
 have hlen:(vs.take 1).length=1:=by simp;omega
 have hmin:min 1 vs.length=1:=by omega
 simp -implicitDefEqProofs [h1,h1l,h1n]
 have hh:=hH (vs.take 1) (by omega)
 rw[hlen]at hh
 refine Aa (hh) ?_
 simp -implicitDefEqProofs [hmin]
 have hp:=hP path ⟨vs.take 1,[]⟩ hb ⟨by simp;omega,Afg⟩
 simp -implicitDefEqProofs [hmin]at hp
 refine Aa (hp) ?_
 simp -implicitDefEqProofs [isOpen,h1]
def Q5 (path:List EG) (v:Int):Bool:= !(Bd path ⟨[v],[]⟩).2
def BZ (path:List EG) (vs:List Int):List Int:=if AQ vs=true then vs.filter (Q5 path)else []
abbrev JH:Prop:=∀(path:List EG) (vs:List Int),lnS Kh path->vs.length<=4194304->R [.sl 1 4 path.length (path.flatMap DT),.sl 1 1 vs.length (ints vs)] [] (.sl 0 1 (BZ path vs).length (ints (BZ path vs))) []
theorem AhL (path:List EG) (v:Int):isOpen path [v]= !Q5 path v:=by
 unfold isOpen Q5
 by_cases h:AQ [v]=true
 ·simp[h]
 ·have:Bd path ⟨[v],[]⟩=(AU,false):=by
   unfold Bd Dt
   have h':AQ [v]=false:=by simpa using h
   simp[h']
  simp[h,this]
theorem Zm (hA:Dr (D 208)) (hO:J4 (D 260)):JH (Body D H9):=by
 intro path vs hb hv
 by_cases h1:AQ vs=true
 rotate_left
 ·have e:BZ path vs=[]:=by unfold BZ;rw[if_neg h1]
  rw[e]
  simp -implicitDefEqProofs
  refine Ag (fun k s=>s=⟨[.sl 1 4 path.length (path.flatMap DT),.sl 1 1 vs.length (ints vs),.undef,.arr 3,I 0,.undef,.undef],[.free,.free,.free,.arr 1 0 0 (ints [])]⟩) ?_ 0 _ (by simp)
  intro k s hs
  subst hs
  by_cases h0:0<vs.length
  ·simp -implicitDefEqProofs [h0]
   refine Aa (hA vs (by unfold maxLen;omega)) ?_
   simp -implicitDefEqProofs [h1]
  ·simp -implicitDefEqProofs [h0]
 have e:BZ path vs=vs.filter (Q5 path):=by unfold BZ;rw[if_pos h1]
 rw[e]
 simp -implicitDefEqProofs
 refine Ag (fun k s=>∃j o1 o2,j+k=vs.length/\s=⟨[.sl 1 4 path.length (path.flatMap DT),.sl 1 1 vs.length (ints vs),.undef,.arr 3,I j,.undef,.undef],[.free,o1,o2,.arr 1 0 ((vs.take j).filter (Q5 path)).length (ints ((vs.take j).filter (Q5 path)))]⟩) ?_ (vs.length) _ ⟨0,.free,.free,by simp,by simp⟩
 intro k s ⟨j,o1,o2,hj,hs⟩
 subst hs
 by_cases hjn:j<vs.length
 ·have hw:=Cv (j:=j) (by omega)
  have hst:=LD (p:=Q5 path) hjn
  have hfl:=Oa (p:=Q5 path) (xs:=vs) (j:=j)
  have hb1:(((vs.take j).filter (Q5 path)).length+1)*8<=1099511627776:=by omega
  have hw1:IntKind.i64.wrap ((j:Int)+1)=(j:Int)+1:=Ad (by omega) (by omega)
  have hj1:j+1<=vs.length:=by omega
  have hj2:(j:Int)+1<=vs.length:=by omega
  have hdt:(vs.drop j).take 1=[vs[j]]:=by rw[List.drop_eq_getElem_cons hjn];rfl
  simp -implicitDefEqProofs [hjn]
  refine Aa (hA vs (by unfold maxLen;omega)) ?_
  have hjj:(j:Int)<=(j:Int)+1:=by omega
  have h11:j+1-j=1:=by omega
  simp -implicitDefEqProofs [h1,hw1,hj1,hj2,hdt,hjn,hjj,h11]
  refine Aa (hO path [vs[j]] hb (by simp)) ?_
  rw[AhL]
  by_cases h2:Q5 path vs[j]=true
  ·rw[if_pos h2]at hst
   simp -implicitDefEqProofs [h2,hjn,hb1]
   exact⟨k-1,by omega,j+1,by omega,by simp[hw],by rw[hst];simp,by rw[hst]⟩
  ·rw[if_neg h2,List.append_nil]at hst
   simp -implicitDefEqProofs [h2]
   exact⟨k-1,by omega,j+1,by omega,by simp[hw],by rw[hst],by rw[hst]⟩
 ·have e2:=N7 (p:=Q5 path) (xs:=vs) (j:=j) (by omega)
  simp -implicitDefEqProofs [hjn,e2]
theorem AB9 (hA:Dr (D 232)) (hH:JZ (D 273)) (hP:Jj (D 274)):JH (Body D AtU):=by
 intro path vs hb hv
 simp -implicitDefEqProofs
 refine Aa (hA vs (by unfold maxLen;omega)) ?_
 by_cases h1:AQ vs=true
 rotate_left
 ·have e:BZ path vs=[]:=by unfold BZ;rw[if_neg h1]
  rw[e]
  simp -implicitDefEqProofs [h1]
 have e:BZ path vs=vs.filter (Q5 path):=by unfold BZ;rw[if_pos h1]
 rw[e]
 simp -implicitDefEqProofs [h1]
 refine Ag (fun k s=>∃j v4 o1 o2 o3 o4 o5 o6 o7 o8,j+k=vs.length/\s=⟨[.sl 1 4 path.length (path.flatMap DT),.undef,.undef,.arr 9,v4,.undef,.undef,.sl 1 1 vs.length (ints vs),I vs.length,I j,.undef,.undef],[.free,o1,o2,o3,o4,o5,o6,o7,o8,.arr 1 0 ((vs.take j).filter (Q5 path)).length (ints ((vs.take j).filter (Q5 path)))]⟩) ?_ (vs.length) _ ⟨0,.undef,.free,.free,.free,.free,.free,.free,.free,.free,by simp,by simp⟩
 intro k s ⟨j,v4,o1,o2,o3,o4,o5,o6,o7,o8,hj,hs⟩
 subst hs
 by_cases hjn:j<vs.length
 ·have hw:=Cv (j:=j) (by omega)
  have hst:=LD (p:=Q5 path) hjn
  have hfl:=Oa (p:=Q5 path) (xs:=vs) (j:=j)
  have hb1:(((vs.take j).filter (Q5 path)).length+1)*8<=1099511627776:=by omega
  simp -implicitDefEqProofs [hjn]
  refine Aa (hH [vs[j]] (by simp)) ?_
  simp -implicitDefEqProofs
  refine Aa (hP path ⟨[vs[j]],[]⟩ hb ⟨by simp,Afg⟩) ?_
  have hq:Q5 path vs[j]= !(Bd path ⟨[vs[j]],[]⟩).2:=rfl
  generalize Bd path ⟨[vs[j]],[]⟩=r at hq
  by_cases h2:r.2=true
  ·have h3:¬Q5 path vs[j]=true:=by rw[hq,h2];simp
   rw[if_neg h3,List.append_nil]at hst
   simp -implicitDefEqProofs [h2]
   exact⟨k-1,by omega,j+1,by omega,by simp[hw],by rw[hst],by rw[hst]⟩
  ·have h3:Q5 path vs[j]=true:=by rw[hq];simpa using h2
   rw[if_pos h3]at hst
   simp -implicitDefEqProofs [h2,hb1]
   exact⟨k-1,by omega,j+1,by omega,by simp[hw],by rw[hst];simp,by rw[hst]⟩
 ·have e2:=N7 (p:=Q5 path) (xs:=vs) (j:=j) (by omega)
  simp -implicitDefEqProofs [hjn,e2]
set_option maxHeartbeats 1000000
def Sw (l:List Int):Int:=l.foldl (fun a v=>if v>a then v else a) 0
theorem Aew {x:Int}:∀(l:List Int) (a:Int),(∀y,y∈l->y<x)->a<x->l.foldl (fun a v=>if v>a then v else a) a<x
 | [],a,_,h=>h
 | y::l,a,hl,h=>by
  simp only[List.foldl_cons]
  refine Aew l _ (fun z hz=>hl z (by simp[hz])) ?_
  split
  ·exact hl y (by simp)
  ·exact h
theorem Aat {xs:List Int}:∀(n:Nat),JF xs n=true->∀i j,i<j->j<n->xs.getD i 0<xs.getD j 0
 | 0,_,i,j,_,h=>by omega
 | n+1,hr,i,j,hij,hj=>by
  rw[Qu]at hr
  simp only[Bool.and_eq_true,Bool.or_eq_true,decide_eq_true_eq]at hr
  obtain⟨h1,_,h3⟩:=hr
  by_cases hjn:j<n
  ·exact Aat n h1 i j hij hjn
  ·obtain rfl:j=n:=by omega
   have h4:xs.getD (j-1) 0<xs.getD j 0:=by
    rcases h3 with h3 | h3
    ·omega
    ·exact h3
   by_cases he:i=j-1
   ·rw[he];exact h4
   ·have:=Aat j h1 i (j-1) (by omega) (by omega)
    omega
theorem Amw {xs:List Int} {n i:Nat} (h:JF xs n=true) (hi:i<n):InV (xs.getD i 0) 1 9:=by
 unfold JF at h
 have:=List.all_eq_true.1 h i (List.mem_range.2 hi)
 simp at this
 exact⟨this.1.1,this.1.2⟩
theorem Ru {xs:List Int} (h:AQ xs=true):xs.Pairwise (· < ·):=by
 unfold AQ at h
 simp only[Bool.and_eq_true,decide_eq_true_eq]at h
 rw[List.pairwise_iff_getElem]
 intro i j hi hj hij
 have:=Aat _ h.1 i j hij hj
 rwa [VG hi,VG hj]at this
theorem RF {xs:List Int} (h:AQ xs=true):∀x,x∈xs->InV x 1 9:=by
 unfold AQ at h
 simp only[Bool.and_eq_true,decide_eq_true_eq]at h
 intro x hx
 obtain⟨i,hi,rfl⟩:=List.getElem_of_mem hx
 have:=Amw h.1 hi
 rwa [VG hi]at this
theorem Akj {l:List Int} (hp:l.Pairwise (· < ·)) (h0:∀x,x∈l->0<x) (hn:0<l.length):Sw l=l[l.length-1]:=by
 obtain⟨l',x,rfl⟩:∃l' x,l=l'++ [x]:=by
  rcases List.eq_nil_or_concat l with h | ⟨l',x,h⟩
  ·rw[h]at hn;simp at hn
  ·exact⟨l',x,by simpa using h⟩
 rw[List.pairwise_append]at hp
 have h1:Sw l' <x:=Aew l' 0 (fun y hy=>hp.2.2 y hy x (by simp)) (h0 x (by simp))
 have h2:Sw (l'++ [x])=if x>Sw l' then x else Sw l':=by unfold Sw;rw[List.foldl_append];rfl
 rw[h2,if_pos h1]
 simp
def AJ (a b:List Int):Int:=if AQ a=true/\AQ b=true then Sw (common a b)else 0
abbrev FQ:Prop:=∀a b:List Int,a.length<=4194304->b.length<=4194304->R [.sl 1 1 a.length (ints a),.sl 1 1 b.length (ints b)] [] (I (AJ a b)) []
theorem ml {n:Nat} (h:n<=4194304):n<=maxLen:=by unfold maxLen;omega
theorem Acp (hC:Rz (D 224)) (hA:Dr (D 208)):FQ (Body D Jf):=by
 intro a b ha hb
 have hcl:(common a b).length<=4194304:=Nat.le_trans (List.length_filter_le _ _) ha
 simp -implicitDefEqProofs
 refine Aa (hC a b ha (ml hb)) ?_
 simp -implicitDefEqProofs
 refine Aa (hA a (ml ha)) ?_
 by_cases h1:AQ a=true
 rotate_left
 ·simp -implicitDefEqProofs [h1,AJ]
 simp -implicitDefEqProofs [h1]
 refine Aa (hA b (ml hb)) ?_
 by_cases h2:AQ b=true
 rotate_left
 ·simp -implicitDefEqProofs [h2,AJ]
 have e:AJ a b=Sw (common a b):=by unfold AJ;rw[if_pos ⟨h1,h2⟩]
 rw[e]
 by_cases h3:common a b=[]
 ·simp -implicitDefEqProofs [h2,h3,Sw]
 have h4:0<(common a b).length:=List.length_pos_iff.2 h3
 have h5:=Akj (l:=common a b) ((Ru h1).filter _) (fun x hx=>by have:=RF h1 x (List.mem_filter.1 hx).1;omega) h4
 rw[h5]
 generalize common a b=l at h3 h4 hcl
 have hw:IntKind.i64.wrap ((l.length:Int)-1)=((l.length-1:Nat):Int):=by rw[Ad (by omega) (by omega)];omega
 have h6:l.length-1<l.length:=by omega
 simp -implicitDefEqProofs [h2,h3,hw,h6,h4]
theorem AEj (hC:Rz (D 242)) (hA:Dr (D 232)):FQ (Body D AuE):=by
 intro a b ha hb
 have hcl:(common a b).length<=4194304:=Nat.le_trans (List.length_filter_le _ _) ha
 simp -implicitDefEqProofs
 refine Aa (hA a (ml ha)) ?_
 by_cases h1:AQ a=true
 rotate_left
 ·simp -implicitDefEqProofs [h1,AJ]
 simp -implicitDefEqProofs [h1]
 refine Aa (hA b (ml hb)) ?_
 by_cases h2:AQ b=true
 rotate_left
 ·simp -implicitDefEqProofs [h2,AJ]
 have e:AJ a b=Sw (common a b):=by unfold AJ;rw[if_pos ⟨h1,h2⟩]
 rw[e]
 simp -implicitDefEqProofs [h2]
 refine Aa (hC a b ha (ml hb)) ?_
 generalize common a b=l at hcl
 simp -implicitDefEqProofs
 refine Ag (fun k s=>∃j,j+k=l.length/\s=⟨[.undef,.undef,.undef,.sc (.int .i64 (Sw (l.take j))),.undef,.undef,.arr 0,.sc (.int .i64 l.length),.sc (.int .i64 j),.undef],[.arr 1 0 l.length (ints l)]⟩) ?_ l.length _ ⟨0,by simp,by simp[Sw]⟩
 intro k s ⟨j,hj,hs⟩
 subst hs
 by_cases hjn:j<l.length
 ·have hw:=Cv (j:=j) (by omega)
  have hst:Sw (l.take (j+1))=if l[j]>Sw (l.take j)then l[j]else Sw (l.take j):=by
   have e:l.take (j+1)=l.take j++ [l[j]]:=by simp
   unfold Sw
   rw[e,List.foldl_append];rfl
  simp -implicitDefEqProofs [hjn]
  exact⟨k-1,by omega,j+1,by omega,by rw[hst],by simp[hw]⟩
 ·have hx:l.take j=l:=List.take_of_length_le (by omega)
  simp -implicitDefEqProofs [hjn,hx]
end Go.Eng.T
