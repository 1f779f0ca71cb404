/- Own work: part 13 of the proof of FnExactConsoleLine. -/
import Derived.Test.YtogmkdgkgfhhoaaGreatDoorEP11
import Derived.Test.YtogmkdgkgfhhoaaGreatDoorEP12
import Derived.Lib.ItoaNum
import Derived.Lib.Join
set_option linter.unusedSimpArgs false
set_option linter.unusedVariables false
namespace Go.Eng.T
theorem AMq {y:Ty} {ys:List Ty} {cs:List V} (h:AaX (y::ys) cs):∃a b,Dat y a/\AaX ys b/\cs=a++b:=by simp only[AaX]at h;exact h
theorem AQz {cs:List V} (h:AaX [] cs):cs=[]:=by simp only[AaX]at h;exact h
theorem ARV {ys:List Ty} {cs:List V} (h:Dat (.st ys) cs):AaX ys cs:=by simp only[Dat]at h;exact h
def Py (n:Int):Prop:= -9223372036854775808<=n/\n<=9223372036854775807
theorem rg_of {n:Int} (h:(Lit.int .i64 n).wf=true):Py n:=by
 simp only[Lit.wf,IntKind.min,IntKind.max,IntKind.bits,IntKind.signed,Bool.and_eq_true,decide_eq_true_eq]at h
 exact⟨h.1,h.2⟩
theorem ARP {cs:List V} (h:Dat (.int .i64) cs):∃n,cs=[.sc (.int .i64 n)]/\Py n:=by
 simp only[Dat]at h
 obtain⟨n,h1,h2⟩:=h
 exact⟨n,h2,rg_of h1⟩
theorem AVb {cs:List V} (h:Dat .bool cs):∃b,cs=[.sc (.bool b)]:=by simp only[Dat]at h;exact h
theorem AP5 {cs:List V} (h:Dat .str cs):∃s:ByteArray,cs=[.sc (.string s)]/\s.size<=maxLen:=by
 simp only[Dat]at h
 obtain⟨n,h1,h2⟩:=h
 exact⟨n,h2,h1⟩
theorem AbN {α:Type} {f:α->List V} {p:α->Prop}:∀ {xs:List (List V)},(∀x,x∈xs->∃d,x=f d/\p d)->∃ds:List α,xs=ds.map f/\∀d,d∈ds->p d
 | [],_=>⟨[],rfl,by simp⟩
 | x::xs,h=>by
  obtain⟨d,rfl,hd⟩:=h x (by simp)
  obtain⟨ds,rfl,hds⟩:=AbN (xs:=xs) fun y hy=>h y (by simp[hy])
  exact⟨d::ds,rfl,by intro y hy;rcases List.mem_cons.1 hy with rfl | hy;exact hd;exact hds y hy⟩
theorem AqT {α:Type} {y:Ty} {f:α->List V} {p:α->Prop} (hf:∀cs,Dat y cs->∃d,cs=f d/\p d) {cs:List V} (h:Dat (.sl y) cs):
 ∃ds:List α,cs=[.sl 0 y.cells ds.length (ds.flatMap f)]/\ds.length<=maxLen/\∀d,d∈ds->p d:=by
 simp only[Dat]at h
 obtain⟨xs,h1,h2,rfl⟩:=h
 obtain⟨ds,rfl,h3⟩:=AbN (f:=f) (p:=p) (xs:=xs) fun x hx=>hf x (h2 x hx)
 exact⟨ds,by simp[List.flatMap_def],by simpa using h1,h3⟩
def DK (xs:List Int):Prop:=∀x,x∈xs->Py x
def rgS {α:Type} (f:α->Prop) (xs:List α):Prop:=∀x,x∈xs->f x
theorem AQt {cs:List V} (h:Dat (.sl (.int .i64)) cs):∃xs:List Int,cs=[.sl 0 1 xs.length (ints xs)]/\Nr xs/\DK xs:=by
 obtain⟨ds,h1,h2,h3⟩:=AqT (f:=fun n=> [V.sc (.int .i64 n)]) (p:=Py) (fun cs h=>ARP h) h
 refine⟨ds,?_,h2,h3⟩
 have e:ds.flatMap (fun n=> [V.sc (.int .i64 n)])=ints ds:=by
  clear h1 h2 h3
  induction ds with
  | nil=>rfl
  | cons a ds ih=>rw[List.flatMap_cons,ih];rfl
 rw[h1,e]
 rfl
def AU1:Ty:= .st [.bool,.int .i64,.sl (.int .i64)]
def AK9 (d:Aaf):Prop:=Py d.version/\DK d.tags
theorem AU8 {cs:List V} (h:Dat AU1 cs):∃x:Aaf,cs=AfJ x/\AIl x/\AK9 x:=by
 have h0:=ARV h
 obtain⟨a0,r0,g0,h1,e0⟩:=AMq h0
 obtain⟨x0,rfl⟩:=AVb g0
 obtain⟨a1,r1,g1,h2,e1⟩:=AMq h1
 obtain⟨x1,rfl,w1⟩:=ARP g1
 obtain⟨a2,r2,g2,h3,e2⟩:=AMq h2
 obtain⟨x2,rfl,l2,w2⟩:=AQt g2
 have z:=AQz h3
 subst z;subst e2;subst e1;subst e0
 exact⟨⟨x0,x1,x2⟩,rfl,l2,⟨w1,w2⟩⟩
def AUS:Ty:= .st [.int .i64,.sl (.int .i64),.sl (.int .i64),.bool]
def AUG (d:EG):Prop:=Py d.limit/\DK d.drops/\DK d.strips
theorem AVl {cs:List V} (h:Dat AUS cs):∃x:EG,cs=DT x/\Kh x/\AUG x:=by
 have h0:=ARV h
 obtain⟨a0,r0,g0,h1,e0⟩:=AMq h0
 obtain⟨x0,rfl,w0⟩:=ARP g0
 obtain⟨a1,r1,g1,h2,e1⟩:=AMq h1
 obtain⟨x1,rfl,l1,w1⟩:=AQt g1
 obtain⟨a2,r2,g2,h3,e2⟩:=AMq h2
 obtain⟨x2,rfl,l2,w2⟩:=AQt g2
 obtain⟨a3,r3,g3,h4,e3⟩:=AMq h3
 obtain⟨x3,rfl⟩:=AVb g3
 have z:=AQz h4
 subst z;subst e3;subst e2;subst e1;subst e0
 exact⟨⟨x0,x1,x2,x3⟩,rfl,⟨l1,l2⟩,⟨w0,w1,w2⟩⟩
theorem AVe {cs:List V} (h:Dat (.sl AUS) cs):∃xs:List EG,cs=[.sl 0 4 xs.length (xs.flatMap DT)]/\lnS Kh xs/\rgS AUG xs:=by
 obtain⟨ds,h1,h2,h3⟩:=AqT (f:=DT) (p:=fun x=>Kh x/\AUG x) (fun cs h=>AVl h) h
 exact⟨ds,h1,⟨h2,fun j hj=>(h3 _ (List.getElem_mem hj)).1⟩,fun x hx=>(h3 x hx).2⟩
def AR4:Ty:= .st [AU1,.int .i64,.sl (.int .i64)]
def AyE (d:BP):Prop:=AK9 d.deal/\Py d.tries/\DK d.up
theorem ATI {cs:List V} (h:Dat AR4 cs):∃x:BP,cs=AB x/\Ayh x/\AyE x:=by
 have h0:=ARV h
 obtain⟨a0,r0,g0,h1,e0⟩:=AMq h0
 obtain⟨x0,rfl,l0,w0⟩:=AU8 g0
 obtain⟨a1,r1,g1,h2,e1⟩:=AMq h1
 obtain⟨x1,rfl,w1⟩:=ARP g1
 obtain⟨a2,r2,g2,h3,e2⟩:=AMq h2
 obtain⟨x2,rfl,l2,w2⟩:=AQt g2
 have z:=AQz h3
 subst z;subst e2;subst e1;subst e0
 exact⟨⟨x0,x1,x2⟩,rfl,⟨l0,l2⟩,⟨w0,w1,w2⟩⟩
theorem AUC {cs:List V} (h:Dat (.sl AR4) cs):∃xs:List BP,cs=[.sl 0 5 xs.length (xs.flatMap AB)]/\lnS Ayh xs/\rgS AyE xs:=by
 obtain⟨ds,h1,h2,h3⟩:=AqT (f:=AB) (p:=fun x=>Ayh x/\AyE x) (fun cs h=>ATI h) h
 exact⟨ds,h1,⟨h2,fun j hj=>(h3 _ (List.getElem_mem hj)).1⟩,fun x hx=>(h3 x hx).2⟩
def ATM:Ty:= .st [.int .i64,.sl (.int .i64),.int .i64,.bool]
def ATJ (d:AX):Prop:=Py d.version/\DK d.stages/\Py d.pos
theorem AUu {cs:List V} (h:Dat ATM cs):∃x:AX,cs=Dj x/\ABu x/\ATJ x:=by
 have h0:=ARV h
 obtain⟨a0,r0,g0,h1,e0⟩:=AMq h0
 obtain⟨x0,rfl,w0⟩:=ARP g0
 obtain⟨a1,r1,g1,h2,e1⟩:=AMq h1
 obtain⟨x1,rfl,l1,w1⟩:=AQt g1
 obtain⟨a2,r2,g2,h3,e2⟩:=AMq h2
 obtain⟨x2,rfl,w2⟩:=ARP g2
 obtain⟨a3,r3,g3,h4,e3⟩:=AMq h3
 obtain⟨x3,rfl⟩:=AVb g3
 have z:=AQz h4
 subst z;subst e3;subst e2;subst e1;subst e0
 exact⟨⟨x0,x1,x2,x3⟩,rfl,l1,⟨w0,w1,w2⟩⟩
def ARX:Ty:= .st [.sl (.int .i64),.sl (.int .i64),.sl AUS,.int .i64]
def ARb (d:Ai):Prop:=DK d.versions/\DK d.tags/\rgS AUG d.path/\Py d.cls
theorem AUh {cs:List V} (h:Dat ARX cs):∃x:Ai,cs=Ah x/\AbY x/\ARb x:=by
 have h0:=ARV h
 obtain⟨a0,r0,g0,h1,e0⟩:=AMq h0
 obtain⟨x0,rfl,l0,w0⟩:=AQt g0
 obtain⟨a1,r1,g1,h2,e1⟩:=AMq h1
 obtain⟨x1,rfl,l1,w1⟩:=AQt g1
 obtain⟨a2,r2,g2,h3,e2⟩:=AMq h2
 obtain⟨x2,rfl,l2,w2⟩:=AVe g2
 obtain⟨a3,r3,g3,h4,e3⟩:=AMq h3
 obtain⟨x3,rfl,w3⟩:=ARP g3
 have z:=AQz h4
 subst z;subst e3;subst e2;subst e1;subst e0
 exact⟨⟨x0,x1,x2,x3⟩,rfl,⟨l0,l1,l2⟩,⟨w0,w1,w2,w3⟩⟩
theorem ATX {cs:List V} (h:Dat (.sl ARX) cs):∃xs:List Ai,cs=[.sl 0 4 xs.length (xs.flatMap Ah)]/\lnS AbY xs/\rgS ARb xs:=by
 obtain⟨ds,h1,h2,h3⟩:=AqT (f:=Ah) (p:=fun x=>AbY x/\ARb x) (fun cs h=>AUh h) h
 exact⟨ds,h1,⟨h2,fun j hj=>(h3 _ (List.getElem_mem hj)).1⟩,fun x hx=>(h3 x hx).2⟩
def AS0:Ty:= .st [.int .i64,.int .i64,.bool,AR4]
def AR9 (d:Eo):Prop:=Py d.fin/\Py d.tick/\AyE d.dialed
theorem AUN {cs:List V} (h:Dat AS0 cs):∃x:Eo,cs=Az x/\ADx x/\AR9 x:=by
 have h0:=ARV h
 obtain⟨a0,r0,g0,h1,e0⟩:=AMq h0
 obtain⟨x0,rfl,w0⟩:=ARP g0
 obtain⟨a1,r1,g1,h2,e1⟩:=AMq h1
 obtain⟨x1,rfl,w1⟩:=ARP g1
 obtain⟨a2,r2,g2,h3,e2⟩:=AMq h2
 obtain⟨x2,rfl⟩:=AVb g2
 obtain⟨a3,r3,g3,h4,e3⟩:=AMq h3
 obtain⟨x3,rfl,l3,w3⟩:=ATI g3
 have z:=AQz h4
 subst z;subst e3;subst e2;subst e1;subst e0
 exact⟨⟨x0,x1,x2,x3⟩,rfl,l3,⟨w0,w1,w3⟩⟩
theorem AUq {cs:List V} (h:Dat (.sl AS0) cs):∃xs:List Eo,cs=[.sl 0 8 xs.length (xs.flatMap Az)]/\lnS ADx xs/\rgS AR9 xs:=by
 obtain⟨ds,h1,h2,h3⟩:=AqT (f:=Az) (p:=fun x=>ADx x/\AR9 x) (fun cs h=>AUN h) h
 exact⟨ds,h1,⟨h2,fun j hj=>(h3 _ (List.getElem_mem hj)).1⟩,fun x hx=>(h3 x hx).2⟩
def ASY:Ty:= .st [.sl (.int .i64),.sl (.int .i64),.int .i64,.sl ARX,ATM,.int .i64,.int .i64,.sl AR4,.sl AS0,.int .i64,.int .i64,.int .i64]
def ASR (d:World):Prop:=DK d.server/\DK d.tags/\Py d.key/\rgS ARb d.ends/\ATJ d.rollout/\Py d.least/\Py d.percent/\rgS AyE d.stage/\rgS AR9 d.log/\Py d.now/\Py d.hurt/\Py d.reached
theorem AUT {cs:List V} (h:Dat ASY cs):∃x:World,cs=Bu x/\AAK x/\ASR x:=by
 have h0:=ARV h
 obtain⟨a0,r0,g0,h1,e0⟩:=AMq h0
 obtain⟨x0,rfl,l0,w0⟩:=AQt g0
 obtain⟨a1,r1,g1,h2,e1⟩:=AMq h1
 obtain⟨x1,rfl,l1,w1⟩:=AQt g1
 obtain⟨a2,r2,g2,h3,e2⟩:=AMq h2
 obtain⟨x2,rfl,w2⟩:=ARP g2
 obtain⟨a3,r3,g3,h4,e3⟩:=AMq h3
 obtain⟨x3,rfl,l3,w3⟩:=ATX g3
 obtain⟨a4,r4,g4,h5,e4⟩:=AMq h4
 obtain⟨x4,rfl,l4,w4⟩:=AUu g4
 obtain⟨a5,r5,g5,h6,e5⟩:=AMq h5
 obtain⟨x5,rfl,w5⟩:=ARP g5
 obtain⟨a6,r6,g6,h7,e6⟩:=AMq h6
 obtain⟨x6,rfl,w6⟩:=ARP g6
 obtain⟨a7,r7,g7,h8,e7⟩:=AMq h7
 obtain⟨x7,rfl,l7,w7⟩:=AUC g7
 obtain⟨a8,r8,g8,h9,e8⟩:=AMq h8
 obtain⟨x8,rfl,l8,w8⟩:=AUq g8
 obtain⟨a9,r9,g9,h10,e9⟩:=AMq h9
 obtain⟨x9,rfl,w9⟩:=ARP g9
 obtain⟨a10,r10,g10,h11,e10⟩:=AMq h10
 obtain⟨x10,rfl,w10⟩:=ARP g10
 obtain⟨a11,r11,g11,h12,e11⟩:=AMq h11
 obtain⟨x11,rfl,w11⟩:=ARP g11
 have z:=AQz h12
 subst z;subst e11;subst e10;subst e9;subst e8;subst e7;subst e6;subst e5;subst e4;subst e3;subst e2;subst e1;subst e0
 exact⟨⟨x0,x1,x2,x3,x4,x5,x6,x7,x8,x9,x10,x11⟩,rfl,⟨l0,l1,l3,l4,l7,l8⟩,⟨w0,w1,w2,w3,w4,w5,w6,w7,w8,w9,w10,w11⟩⟩
theorem AP6 {v:V} (h:APy .str v):∃s:ByteArray,v=S s/\s.size<=maxLen:=by
 obtain⟨c,hd,rfl⟩:=h
 obtain⟨n,e,w⟩:=AP5 hd
 cases e
 exact⟨n,rfl,w⟩
theorem AU3 {v:V} (h:APy ASY v):∃x:World,v=arg (Bu x)/\AAK x/\ASR x:=by
 obtain⟨cs,hd,rfl⟩:=h
 obtain⟨x,rfl,w⟩:=AUT hd
 exact⟨x,rfl,w⟩
theorem AVj {n:Nat} {l:Int} (h:l<n):szl n l= -1:=by unfold szl;rw[if_pos h]
theorem APM {n:Nat} {l:Int} (h:¬l<n):szl n l=l-n:=by unfold szl;rw[if_neg h]
theorem ATN {α:Type} {mc sz:α->Nat} (c:Nat) (h:∀x,mc x<=c*(1+sz x)) (xs:List α):mcL mc xs<=c*Cr sz xs:=by
 induction xs with
 | nil=>simp[mcL]
 | cons x r ih=>
  have:=h x
  simp only[mcL,Cr,List.map_cons,List.sum_cons,List.length_cons]at *
  rw[Nat.mul_add]at *
  rw[Nat.mul_add]at *
  rw[Nat.mul_add]
  omega
theorem AUH (xs:List EG):mcL AOw xs<=2*Cr Gm xs:=ATN 2 (fun x=>by unfold AOw Gm;omega) xs
theorem ATs (x:Ai):AMp x<=2*(1+Am x):=by have:=AUH x.path;unfold AMp Am;omega
theorem ATj (xs:List Ai):mcL AMp xs<=2*Cr Am xs:=ATN 2 ATs xs
theorem AT3 (xs:List BP):mcL AMr xs<=3*Cr Cb xs:=ATN 3 (fun x=>by unfold AMr Cb ND;omega) xs
theorem ATT (xs:List Eo):mcL ANW xs<=6*Cr Ip xs:=ATN 6 (fun x=>by unfold ANW Ip Cb ND;omega) xs
theorem ATp (x:World):APp x<=6*Af x:=by
 have:=ATj x.ends
 have:=AT3 x.stage
 have:=ATT x.log
 unfold APp Af Db;omega
theorem Akl {w:World} (h:Af w<=4194304):w.log.length<=4194304:=by have:=J9 (f:=Ip) (xs:=w.log);unfold Af at h;omega
theorem FE {w:World} (h:Af w<=4194304):w.ends.length<=4194304:=by have:=J9 (f:=Am) (xs:=w.ends);unfold Af at h;omega
theorem XY {w:World} (h:Af w<=4194304):w.stage.length<=4194304:=by have:=J9 (f:=Cb) (xs:=w.stage);unfold Af at h;omega
theorem Aqs (a b:Int):(a==b)=decide (a=b):=by by_cases h:a=b<;>simp[h]
open Go.Lib
set_option maxRecDepth 20000
set_option maxHeartbeats 1000000
def Ww (l:List UInt8):ByteArray:=⟨l.toArray⟩
@[simp] theorem ArQ (l:List UInt8):(Ww l).size=l.length:=by simp[Ww,ByteArray.size]
@[simp] theorem Ar6 (a b:List UInt8):Ww a++Ww b=Ww (a++b):=by
 apply ByteArray.ext
 simp[Ww]
@[simp] theorem Ar3 (l:List UInt8):ByteArray.mk l.toArray=Ww l:=rfl
@[simp] theorem Ar1:ByteArray.mk #[]=Ww []:=rfl
abbrev Sb (l:List UInt8):V:= .sc (.string (Ww l))
def strs (ls:List (List UInt8)):List V:=ls.map fun l=>Sb l
@[simp high] theorem ArP (xs:List (List UInt8)):(strs xs).length=xs.length:=by simp[strs]
@[simp] theorem ArC:strs []=[]:=rfl
@[simp] theorem ArX (xs:List (List UInt8)) (k:Nat):(strs xs).map (AO k)=strs xs:=by simp[strs,Function.comp_def,AO]
@[simp] theorem Arr (xs:List (List UInt8)) (l:List UInt8):strs xs++ [V.sc (.string (Ww l))]=strs (xs++ [l]):=by simp[strs]
theorem E5 {n:Int} (h:Py n):(itoa n).length<=20:=by
 have key:∀u:Nat,u<=9223372036854775808->(decDigits u).length<=19:=by
  intro u hu
  rw[decDigits_length]
  by_cases h0:nDigits u<=19
  ·exact h0
  have h1:¬u<10:=by intro h2;rw[nDigits_small h2]at h0;omega
  have h2:=nDigits_unique 18 u
  by_cases h3:10 ^ 18<=u
  ·have:=h2 h3 (by omega);omega
  ·have h4:∀k,∀v:Nat,v<10 ^ (k+1)->nDigits v<=k+1:=by
    intro k
    induction k with
    | zero=>intro v hv;rw[nDigits_small (by omega)];omega
    | succ k ih=>
     intro v hv
     by_cases h5:v<10
     ·rw[nDigits_small h5];omega
     ·rw[nDigits_big h5]
      have:=ih (v / 10) (by rw[Nat.pow_succ]at hv;omega)
      omega
   have:=h4 17 u (by omega)
   omega
 unfold Py at h
 unfold itoa
 split
 ·have:=key n.natAbs (by omega)
  simp only[List.length_cons];omega
 ·have:=key n.toNat (by omega)
  omega
variable (R:Rel)
abbrev EB:Prop:=∀n:Int,Py n->R [I n] [] (Sb (itoa n)) []
abbrev Ane:Prop:=∀(ls:List (List UInt8)) (sep:List UInt8),ls.length<=4194304->(join ls sep).length<=140737488355328->R [.sl 1 1 ls.length (strs ls),Sb sep] [] (Sb (join ls sep)) []
variable (D:Dn)
theorem AeF (hA:EB (D 185)):EB (Body D KX):=by
 intro n h
 simp -implicitDefEqProofs
 refine Aa (hA n h) ?_
 simp -implicitDefEqProofs
theorem AjZ {u:Nat} (h:¬u<10):decDigits u=decDigits (u / 10)++ [UInt8.ofNat (48+u % 10)]:=by
 rw[decDigits,dif_neg h]
theorem AOJ (x:Int):(x.tdiv 10).natAbs=x.natAbs / 10:=by
 rw[Int.natAbs_tdiv];rfl
theorem AOO (x:Int):(x.tmod 10).natAbs=x.natAbs % 10:=by
 rw[Int.natAbs_tmod];rfl
theorem AOy:EB (Body D ALC):=by
 intro n h
 have hlen:=E5 h
 unfold Py at h
 by_cases h0:n=0
 ·subst h0
  have e:itoa 0=[48]:=by unfold itoa decDigits;rfl
  simp -implicitDefEqProofs [e]
 have hmain:(decDigits n.natAbs).length<=20:=by
  unfold itoa at hlen
  split at hlen
  ·simp only[List.length_cons]at hlen;omega
  ·rw[show n.natAbs=n.toNat by omega];exact hlen
 simp -implicitDefEqProofs [h0]
 refine Ag (fun k st=>∃(x:Int) (s:List UInt8) (o:O),k=x.natAbs/\x.natAbs<=n.natAbs/\Py x/\(x=0->s=decDigits n.natAbs)/\(x≠0->decDigits n.natAbs=decDigits x.natAbs++s)/\st=⟨[I n,.undef,Sb s,I x,.undef,.undef,.undef,.undef,.undef],[o]⟩) ?_ n.natAbs _ ⟨n,[],.free,rfl,Nat.le_refl _,h,fun e=>absurd e h0,fun _=>by simp,by simp⟩
 intro k st ⟨x,s,o,hk,hxn,hx,hz,hnz,hs⟩
 subst hs
 unfold Py at hx
 by_cases hx0:x=0
 ·have e:=hz hx0
  subst hx0
  by_cases hneg:n<0
  ·have e2:itoa n=[45]++s:=by unfold itoa;rw[if_pos hneg,e];rfl
   have hb:1+s.length<=1099511627776:=by rw[e];omega
   simp -implicitDefEqProofs [hneg,e2,hb]
  ·have e2:itoa n=s:=by unfold itoa;rw[if_neg hneg,e];rw[show n.natAbs=n.toNat by omega]
   simp -implicitDefEqProofs [hneg,e2]
 have e:=hnz hx0
 have hsl:s.length<=20:=by rw[e]at hmain;simp at hmain;omega
 have hd:=AOO x
 have hq:=AOJ x
 have hwq:IntKind.i64.wrap (x.tdiv 10)=x.tdiv 10:=Ad (by omega) (by omega)
 have hlt:x.natAbs % 10<10:=Nat.mod_lt _ (by omega)
 have hs1:∀d:Nat,d<10->IntKind.i64.wrap (48+(d:Int))=48+(d:Int):=fun d hd=>Ad (by omega) (by omega)
 have hs2:∀d:Nat,d<10->IntKind.u8.wrap (48+(d:Int))=48+(d:Int):=fun d hd=>by
  show(if(false&&decide ((48+(d:Int)) % (2 ^ 8:Int)>=(2 ^ 7:Int)))=true then(48+(d:Int)) % (2 ^ 8:Int)-(2 ^ 8:Int)else(48+(d:Int)) % (2 ^ 8:Int))=_
  rw[if_neg (by simp)];omega
 have hb:1+s.length<=1099511627776:=by omega
 have fin:∀s':List UInt8,s' =UInt8.ofNat (48+x.natAbs % 10)::s->((x.tdiv 10).natAbs<x.natAbs/\(x.tdiv 10).natAbs<=n.natAbs/\Py (x.tdiv 10)/\(x.tdiv 10=0->s' =decDigits n.natAbs)/\(x.tdiv 10≠0->decDigits n.natAbs=decDigits (x.tdiv 10).natAbs++s')):=by
  intro s' hs'
  subst hs'
  refine⟨by omega,by omega,by unfold Py;omega,fun h1=> ?_,fun h1=> ?_⟩
  ·have h2:x.natAbs<10:=by omega
   rw[e,decDigits_one h2,Nat.mod_eq_of_lt h2];rfl
  ·have h2:¬x.natAbs<10:=by omega
   rw[e,AjZ h2,hq];simp
 by_cases hneg:x.tmod 10<0
 ·have hd2:x.tmod 10= -((x.natAbs % 10:Nat):Int):=by omega
  have hwn:IntKind.i64.wrap (-x.tmod 10)=((x.natAbs % 10:Nat):Int):=by rw[hd2,Ad (by omega) (by omega)];omega
  obtain⟨d,hdd⟩:∃d,d=x.natAbs % 10:=⟨_,rfl⟩
  rw[<-hdd]at hwn hlt fin
  simp -implicitDefEqProofs [hx0,hneg,hwn,hs1 d hlt,hs2 d hlt,hb,hwq,AmL,content,Km,Aex]
  obtain⟨f1,f2,f3,f4,f5⟩:=fin _ rfl
  exact⟨(x.tdiv 10).natAbs,by omega,x.tdiv 10,rfl,f2,f3,_,f4,f5,by rw[show(48+(d:Int)).toNat=48+d by omega],rfl⟩
 ·have hd2:x.tmod 10=((x.natAbs % 10:Nat):Int):=by omega
  obtain⟨d,hdd⟩:∃d,d=x.natAbs % 10:=⟨_,rfl⟩
  rw[<-hdd]at hd2 hlt fin
  rw[hd2]at hneg
  simp -implicitDefEqProofs [hx0,hneg,hd2,hs1 d hlt,hs2 d hlt,hb,hwq,AmL,content,Km,Aex]
  obtain⟨f1,f2,f3,f4,f5⟩:=fin _ rfl
  exact⟨(x.tdiv 10).natAbs,by omega,x.tdiv 10,rfl,f2,f3,_,f4,f5,by rw[show(48+(d:Int)).toNat=48+d by omega],rfl⟩
def Hf (xs:List Int) (sep:List UInt8):List UInt8:=join (xs.map itoa) sep
theorem Akb (x:List UInt8) (r:List (List UInt8)) (y sep:List UInt8):join (x::r++ [y]) sep=join (x::r) sep++sep++y:=by
 rw[List.cons_append,join_cons,join_cons]
 simp[joinTail]
theorem Ai2 {xs:List Int} {sep:List UInt8} {j:Nat} (h:j<xs.length):Hf (xs.take (j+1)) sep=(if j=0 then []else Hf (xs.take j) sep++sep)++itoa xs[j]:=by
 have e:xs.take (j+1)=xs.take j++ [xs[j]]:=by simp
 unfold Hf
 rw[e,List.map_append]
 by_cases h0:j=0
 ·subst h0;simp[join_one]
 ·rw[if_neg h0]
  cases hx:xs.take j with
  | nil=>exact absurd (congrArg List.length hx) (by rw[List.length_take];simp only[List.length_nil];omega)
  | cons a r=>exact Akb _ _ _ _
theorem F9 {xs:List Int} {sep:List UInt8} (hr:DK xs) (hs:sep.length<=1):(Hf xs sep).length<=21*xs.length:=by
 have key:∀n,n<=xs.length->(Hf (xs.take n) sep).length<=21*n:=by
  intro n
  induction n with
  | zero=>intro _;simp[Hf,join_nil]
  | succ n ih=>
   intro h
   have h1:=ih (by omega)
   have h2:=E5 (hr xs[n] (by simp))
   rw[Ai2 (by omega)]
   split
   ·simp;omega
   ·simp;omega
 have:=key xs.length (Nat.le_refl _)
 rwa [List.take_length]at this
theorem APH {xs:List Int} {j:Nat} (h:DK xs):DK (xs.take j):=fun x hx=>h x (List.mem_of_mem_take hx)
abbrev MJ:Prop:=∀(xs:List Int) (sep:List UInt8),xs.length<=4194304->DK xs->sep.length<=1->R [.sl 1 1 xs.length (ints xs),Sb sep] [] (Sb (Hf xs sep)) []
theorem APa (hF:EB (D 93)):MJ (Body D AMd):=by
 intro xs sep hl hr hs
 simp -implicitDefEqProofs
 refine Ag (fun k st=>∃j,j+k=xs.length/\st=⟨[.sl 1 1 xs.length (ints xs),Sb sep,.undef,Sb (Hf (xs.take j) sep),.sc (.int .i64 j),.undef,.undef],[]⟩) ?_ xs.length _ ⟨0,by simp,by simp[Hf,join_nil]⟩
 intro k st ⟨j,hj,hst⟩
 subst hst
 by_cases hjn:j<xs.length
 ·have hw:=Cv (j:=j) (by omega)
  have hstep:=Ai2 (sep:=sep) hjn
  have h1:=F9 (APH (j:=j) hr) hs
  have h3:(xs.take j).length<=j:=by simp;omega
  have h2:=E5 (hr xs[j] (by simp))
  have b1:(Hf (xs.take j) sep).length+sep.length<=1099511627776:=by omega
  by_cases h0:j=0
  ·subst h0
   rw[if_pos rfl]at hstep
   have b2:(Hf [] sep).length+(itoa xs[0]).length<=1099511627776:=by simp[Hf,join_nil];omega
   have b3:Hf [] sep=[]:=rfl
   simp -implicitDefEqProofs [hjn]
   refine Aa (hF xs[0] (hr _ (by simp))) ?_
   simp -implicitDefEqProofs [b2]
   exact⟨k-1,by omega,1,by omega,by rw[hstep,b3],by simpa using hw⟩
  ·rw[if_neg h0]at hstep
   have h0':(0:Int)<j:=by omega
   have h0'':0<j:=by omega
   have b2:(Hf (xs.take j) sep).length+sep.length+(itoa xs[j]).length<=1099511627776:=by omega
   have b2':(Hf (xs.take j) sep).length+(sep.length+(itoa xs[j]).length)<=1099511627776:=by omega
   simp -implicitDefEqProofs [hjn,h0',h0'',b1]
   refine Aa (hF xs[j] (hr _ (by simp))) ?_
   simp -implicitDefEqProofs [b2,b2']
   exact⟨k-1,by omega,j+1,by omega,by rw[hstep];simp,by simp[hw]⟩
 ·obtain rfl:j=xs.length:=by omega
  simp -implicitDefEqProofs
theorem AnL (hF:EB (D 120)) (hJ:Ane (D 241)):MJ (Body D OP):=by
 intro xs sep hl hr hs
 simp -implicitDefEqProofs
 refine Ag (fun k st=>∃j v4 o1 o2,j+k=xs.length/\st=⟨[.undef,Sb sep,.undef,.arr 3,v4,.sl 1 1 xs.length (ints xs),.sc (.int .i64 xs.length),.sc (.int .i64 j),.undef],[.free,o1,o2,.arr 1 0 j (strs ((xs.map itoa).take j))]⟩) ?_ xs.length _ ⟨0,.undef,.free,.free,by simp,by simp⟩
 intro k st ⟨j,v4,o1,o2,hj,hst⟩
 subst hst
 by_cases hjn:j<xs.length
 ·have hw:=Cv (j:=j) (by omega)
  have hjl:min j xs.length=j:=by omega
  have b1:(j+1)*16<=1099511627776:=by omega
  have hstep:strs ((xs.map itoa).take j++ [itoa xs[j]])=strs ((xs.map itoa).take (j+1)):=by
   rw[<-List.take_append_getElem (by simpa using hjn)];simp
  simp -implicitDefEqProofs [hjn]
  refine Aa (hF xs[j] (hr _ (by simp))) ?_
  simp -implicitDefEqProofs [hjl,b1]
  exact⟨k-1,by omega,j+1,by omega,by simp[hw],rfl,hstep⟩
 ·obtain rfl:j=xs.length:=by omega
  have e:(xs.map itoa).take xs.length=xs.map itoa:=List.take_of_length_le (by simp)
  have e2:(xs.map itoa).length=xs.length:=by simp
  have hj:=hJ (xs.map itoa) sep (by simpa using hl) (by have:=F9 hr hs;unfold Hf at this;omega)
  rw[e2]at hj
  simp -implicitDefEqProofs [e]
  refine Aa hj ?_
  simp -implicitDefEqProofs [Hf]
end Go.Eng.T
namespace Go.Eng.T
open Go.Lib
set_option maxRecDepth 20000
set_option maxHeartbeats 4000000
@[simp] theorem AKx (l:List UInt8) (i:Nat):(Ww l).data[i]? =l[i]? :=by
 show l.toArray[i]? =_
 simp
@[simp] theorem ALv (l:List UInt8) (i:Nat) (h:i<(Ww l).data.size):(Ww l).data[i]=l[i]'(by rwa [show(Ww l).data.size=l.length from ArQ l]at h):=by
 have e:=AKx l i
 rw[Array.getElem?_eq_getElem h,List.getElem?_eq_getElem (by rwa [show(Ww l).data.size=l.length from ArQ l]at h)]at e
 exact Option.some.inj e
theorem AOC (l:List UInt8) (a b:Nat):(Ww l).extract a b=Ww ((l.take b).drop a):=by
 apply ByteArray.ext
 rw[ByteArray.data_extract]
 show l.toArray.extract a b=((l.take b).drop a).toArray
 apply Array.ext'
 simp[List.drop_take]
@[simp] theorem AK6 (l:List UInt8):(Ww l).toList=l:=by
 rw[ByteArray.toList_eq]
 show l.toArray.toList=l
 simp
def wGo:List UInt8->List UInt8->List (List UInt8)
 | [],w=>if w=[]then []else [w]
 | c::r,w=>if c=32 then(if w=[]then wGo r []else w::wGo r [])else wGo r (w++ [c])
def Awt (l:List UInt8):List (List UInt8):=wGo l []
theorem AIW (w:List UInt8):wGo [] w=if w=[]then []else [w]:=by rw[wGo]
theorem APL {l:List UInt8} {j:Nat} (h:j<l.length) (w:List UInt8):wGo (l.drop j) w=if l[j]=32 then(if w=[]then wGo (l.drop (j+1)) []else w::wGo (l.drop (j+1)) [])else wGo (l.drop (j+1)) (w++ [l[j]]):=by
 rw[List.drop_eq_getElem_cons h,wGo]
abbrev AOq (R:Rel):Prop:=∀l:List UInt8,l.length<=4194304->R [Sb l] [] (.sl 0 1 (Awt l).length (strs (Awt l))) []
theorem APS {l:List UInt8} {j:Nat} (h:j<l.length):(Ww l).extract j (j+1)=Ww [l[j]]:=by
 rw[AOC]
 congr 1
 rw[<-List.take_append_getElem h,List.drop_append_of_le_length (by simp;omega),List.drop_of_length_le (by simp;omega)];rfl
theorem AO2 (D:Dn):AOq (Body D AL3):=by
 intro l hl
 simp -implicitDefEqProofs
 refine Ag (fun k s=>∃j w out o0 o1 o2,j+k=(l.length+1)/\(j<=l.length->out++wGo (l.drop j) w=Awt l)/\(j=l.length+1->out=Awt l)/\w.length<=j/\out.length<=j/\s=⟨[Sb l,.undef,.arr 3,Sb w,I j,.undef,.undef,.undef],[o0,o1,o2,.arr 1 0 out.length (strs out)]⟩) ?_ ((l.length+1)) _ ⟨0,([]),([]),.free,.free,.free,by simp,fun _=>by simp[Awt],fun h=>absurd h (by omega),by simp,by simp,by simp⟩
 intro k s ⟨j,w,out,o0,o1,o2,hj,hq,hr,hwl,hol,hs⟩
 subst hs
 by_cases hjn:j<=l.length
 rotate_left
 ·obtain rfl:j=l.length+1:=by omega
  have e:=hr rfl
  have c1:¬((l.length:Int)+1<=l.length):=by omega
  simp -implicitDefEqProofs [e,c1]
 have hw:=Cv (j:=j) (by omega)
 have hq:=hq hjn
 have b1:(out.length+1)*16<=1099511627776:=by omega
 have hend:∀out':List (List UInt8),out'++wGo (l.drop (j+1)) []=Awt l->out'.length<=j+1->(j+1<=l.length->out'++wGo (l.drop (j+1)) []=Awt l)/\(j+1=l.length+1->out' =Awt l):=fun out' h1 h2=>⟨fun _=>h1,fun h=>by
  rw[<-h1,show j+1=l.length+1 by omega,List.drop_of_length_le (by omega),AIW];simp⟩
 by_cases hlt:j<l.length
 ·have hat:=APL hlt w
  have hcut:=APS hlt
  by_cases hc:l[j]=32
  ·rw[if_pos hc]at hat
   by_cases hw0:w=[]
   ·subst hw0
    rw[if_pos rfl]at hat
    rw[hat]at hq
    simp -implicitDefEqProofs [hlt,hc,hw,hjn,AK6]
    exact⟨k-1,by omega,j+1,by omega,[],out,fun _=>hq,(hend out hq (by omega)).2,by simp,by omega,by simp⟩
   ·rw[if_neg hw0]at hat
    rw[hat]at hq
    simp -implicitDefEqProofs [hlt,hc,hw,hjn,AK6,hw0,b1]
    have hq':(out++ [w])++wGo (l.drop (j+1)) []=Awt l:=by simpa using hq
    exact⟨k-1,by omega,j+1,by omega,[],out++ [w],fun _=>hq',(hend _ hq' (by simp;omega)).2,by simp,by simp;omega,by simp⟩
  ·rw[if_neg hc]at hat
   rw[hat]at hq
   have hc':¬((l[j].toNat:Int)=32):=fun h=>hc (by apply UInt8.toNat_inj.1;simpa using Int.ofNat.inj h)
   have b2:w.length+1<=1099511627776:=by omega
   have c2:(j:Int)<=j+1:=by omega
   have c3:(j:Int)+1<=l.length:=by omega
   simp -implicitDefEqProofs [hlt,hc',hcut,hw,b2,hjn,c2,c3]
   exact⟨k-1,by omega,j+1,by omega,w++ [l[j]],out,fun _=>hq,fun h=>absurd h (by omega),by simp;omega,by omega,by simp⟩
 ·obtain rfl:j=l.length:=by omega
  have hd:wGo (l.drop l.length) w=if w=[]then []else [w]:=by rw[List.drop_of_length_le (Nat.le_refl _),AIW]
  rw[hd]at hq
  by_cases hw0:w=[]
  ·subst hw0
   simp -implicitDefEqProofs [hw,AK6]
   exact⟨k-1,by omega,l.length+1,by omega,[],out,fun h=>absurd h (by omega),fun _=>by simpa using hq,by simp,by omega,by simp⟩
  ·rw[if_neg hw0]at hq
   simp -implicitDefEqProofs [hw,AK6,hw0,b1]
   exact⟨k-1,by omega,l.length+1,by omega,[],out++ [w],fun h=>absurd h (by omega),fun _=>hq,by simp,by simp;omega,by simp⟩
end Go.Eng.T
namespace Go.Eng.T
open Go.Lib
set_option maxRecDepth 20000
set_option maxHeartbeats 4000000
def AIy (c:UInt8):Bool:=decide (48<=(c.toNat:Int)/\(c.toNat:Int)<=57)
def AEb (l:List UInt8):Nat:=l.foldl (fun a c=>10*a+(c.toNat-48)) 0
def AsY (l:List UInt8):Bool:=decide (1<=(l.length:Int)/\(l.length:Int)<=13)&&l.all AIy&&decide (AEb l<=1000000000000)&&decide (itoa (AEb l)=l)
def Ave (l:List UInt8):Int:=if AsY l=true then(AEb l:Int)else 0
abbrev ABY (R:Rel):Prop:=∀l:List UInt8,l.length<=4194304->R [Sb l] [] (.tup [I (Ave l),B (AsY l)]) []
theorem AIV (l:List UInt8):Py (Ave l)/\0<=Ave l/\Ave l<=1000000000000:=by
 unfold Ave Py
 split
 ·rename_i h
  simp only[AsY,Bool.and_eq_true,decide_eq_true_eq]at h
  omega
 ·omega
theorem APf {l:List UInt8} {j:Nat} (h:j<l.length):AEb (l.take (j+1))=10*AEb (l.take j)+(l[j].toNat-48):=by
 unfold AEb
 rw[<-List.take_append_getElem h,List.foldl_append];rfl
theorem APk {l:List UInt8} {j:Nat} (h:j<l.length):(l.take (j+1)).all AIy=((l.take j).all AIy&&AIy l[j]):=by
 rw[<-List.take_append_getElem h,List.all_append];simp
theorem AO7:∀(l:List UInt8) (a:Nat),l.all AIy=true->l.foldl (fun a c=>10*a+(c.toNat-48)) a<(a+1)*10 ^ l.length
 | [],a,_=>by simp
 | c::r,a,h=>by
  simp only[List.all_cons,Bool.and_eq_true,AIy,decide_eq_true_eq]at h
  have:=AO7 r (10*a+(c.toNat-48)) h.2
  simp only[List.foldl_cons,List.length_cons,Nat.pow_succ]
  refine Nat.lt_of_lt_of_le this ?_
  rw[Nat.mul_comm (10 ^ r.length) 10,<-Nat.mul_assoc]
  exact Nat.mul_le_mul_right _ (by omega)
theorem AOK (D:Dn) (hI:Vf (D 71)) (hF:EB (D 93)):ABY (Body D ALY):=by
 intro l hl
 simp -implicitDefEqProofs
 refine Aa (hI l.length 1 13) ?_
 by_cases h0:1<=(l.length:Int)/\(l.length:Int)<=13
 rotate_left
 ·have e:AsY l=false:=by unfold AsY;simp only[decide_eq_false h0,Bool.false_and]
  have e2:Ave l=0:=by unfold Ave;simp[e]
  simp -implicitDefEqProofs [h0,e,e2]
 have b13:l.length<=13:=by omega
 simp -implicitDefEqProofs [h0]
 refine Ag (fun k s=>∃j,j+k=l.length/\(l.take j).all AIy=true/\s=⟨[Sb l,.undef,.undef,I (AEb (l.take j)),I j,.undef,.undef,.undef,.undef],[]⟩) ?_ (l.length) _ ⟨0,by simp,by simp,by simp[AEb]⟩
 intro k s ⟨j,hj,hd,hs⟩
 subst hs
 have hlt:AEb (l.take j)<10000000000000:=by
  have h1:=AO7 (l.take j) 0 hd
  have h2:(l.take j).length<=13:=by simp;omega
  have h3:=Nat.pow_le_pow_right (show 0<10 by omega) h2
  unfold AEb
  omega
 by_cases hjn:j<l.length
 ·have hw:=Cv (j:=j) (by omega)
  have hst:=APf hjn
  have has:=APk hjn
  have hu8:l[j].toNat<256:=l[j].toNat_lt
  have hwc:IntKind.i64.wrap (l[j].toNat:Int)=(l[j].toNat:Int):=Ad (by omega) (by omega)
  simp -implicitDefEqProofs [hjn,hwc]
  refine Aa (hI (l[j].toNat:Int) 48 57) ?_
  by_cases hdg:AIy l[j]=true
  rotate_left
  ·have e:AsY l=false:=by
    unfold AsY
    have:l.all AIy=false:=by
     rw[List.all_eq_false]
     exact⟨l[j],List.getElem_mem hjn,by simpa using hdg⟩
    simp[this]
   have e2:Ave l=0:=by unfold Ave;simp[e]
   have hdg':¬(48<=(l[j].toNat:Int)/\(l[j].toNat:Int)<=57):=by simpa[AIy]using hdg
   simp -implicitDefEqProofs [hdg',e,e2]
  ·have hdg':48<=(l[j].toNat:Int)/\(l[j].toNat:Int)<=57:=by simpa[AIy]using hdg
   have hw8:IntKind.u8.wrap ((l[j].toNat:Int)-48)=(l[j].toNat:Int)-48:=by
    show(if(false&&decide (((l[j].toNat:Int)-48) % (2 ^ 8:Int)>=(2 ^ 7:Int)))=true then((l[j].toNat:Int)-48) % (2 ^ 8:Int)-(2 ^ 8:Int)else((l[j].toNat:Int)-48) % (2 ^ 8:Int))=_
    rw[if_neg (by simp)];omega
   have hwa:IntKind.i64.wrap ((l[j].toNat:Int)-48)=(l[j].toNat:Int)-48:=Ad (by omega) (by omega)
   have hwm:IntKind.i64.wrap (10*(AEb (l.take j):Int))=10*(AEb (l.take j):Int):=Ad (by omega) (by omega)
   have hwp:IntKind.i64.wrap (10*(AEb (l.take j):Int)+((l[j].toNat:Int)-48))=(AEb (l.take (j+1)):Int):=by rw[Ad (by omega) (by omega)];omega
   simp -implicitDefEqProofs [hdg',hw8,hwa,hwm,hwp,hw,hjn]
   exact⟨k-1,by omega,j+1,by omega,by simpa[hd,hdg]using has,by simp⟩
 ·obtain rfl:j=l.length:=by omega
  rw[List.take_length]at hd hlt
  have hrg:Py (AEb l):=by unfold Py;omega
  by_cases g1:AEb l<=1000000000000
  ·have g1':¬(1000000000000<(AEb l:Int)):=by omega
   simp -implicitDefEqProofs [g1']
   refine Aa (hF (AEb l) hrg) ?_
   by_cases g2:itoa (AEb l)=l
   ·have e:AsY l=true:=by unfold AsY;simp[h0,hd,g1,g2]
    have e2:Ave l=AEb l:=by unfold Ave;simp[e]
    simp -implicitDefEqProofs [g2,e,e2]
   ·have e:AsY l=false:=by unfold AsY;simp[g2]
    have e2:Ave l=0:=by unfold Ave;simp[e]
    simp -implicitDefEqProofs [g2,e,e2]
  ·have g1':1000000000000<(AEb l:Int):=by omega
   have e:AsY l=false:=by unfold AsY;simp[g1]
   have e2:Ave l=0:=by unfold Ave;simp[e]
   simp -implicitDefEqProofs [g1',e,e2]
end Go.Eng.T
namespace Go.Eng.T
theorem Ad3 {xs:List Int} {v:Int} {j:Nat} (h:j<xs.length) (hp:v∉xs.take j) (hv:¬xs[j]=v):v∉xs.take (j+1):=by
 rw[List.take_add_one,List.getElem?_eq_getElem h]
 intro hm
 rcases List.mem_append.1 hm with hm | hm
 ·exact hp hm
 ·simp at hm;exact hv hm.symm
theorem Ag8 {xs:List Int} {v:Int} {j:Nat} (h:xs.length<=j) (hp:v∉xs.take j):v∉xs:=by rwa [List.take_of_length_le h]at hp
theorem Amb {xs:List Int} {v:Int} {j:Nat} (h:j<xs.length) (hv:xs[j]=v):v∈xs:=by rw[<-hv];exact List.getElem_mem h
def AIo (xs:List Int) (v:Int):Int:=if v∈xs then(xs.idxOf v:Nat)else -1
theorem AJL {xs:List Int} {v:Int} {j:Nat} (h:j<xs.length) (hp:v∉xs.take j) (hv:xs[j]=v):AIo xs v=j:=by
 unfold AIo
 rw[if_pos (Amb h hv)]
 congr 1
 have e:xs=xs.take j++v::xs.drop (j+1):=by
  conv=>lhs;rw[<-List.take_append_drop j xs,List.drop_eq_getElem_cons h,hv]
 rw[e,List.idxOf_append,if_neg hp]
 simp
 omega
theorem AKM {xs:List Int} {v:Int}:(0<=AIo xs v)=(v∈xs):=by
 unfold AIo
 by_cases h:v∈xs<;>simp[h]
variable (R:Rel)
abbrev AGq:Prop:=∀(xs:List Int) (v:Int),xs.length<=maxLen->R [.sl 1 1 xs.length (ints xs),I v] [] (I (AIo xs v)) []
variable (D:Dn)
theorem AKW:AGq (Body D AsX):=by
 intro xs v hl
 unfold maxLen at hl
 simp -implicitDefEqProofs
 refine Ag (fun k s=>∃j,j+k=xs.length/\v∉xs.take j/\s=⟨[.sl 1 1 xs.length (ints xs),.sc (.int .i64 v),.undef,.undef,.sc (.int .i64 xs.length),.sc (.int .i64 j),.undef,.undef],[]⟩) ?_ xs.length _ ⟨0,by simp,by simp,by simp⟩
 intro k s ⟨j,hj,hp,hs⟩
 subst hs
 by_cases hjn:j<xs.length
 ·have hw:=Cv (j:=j) (by omega)
  by_cases he:v=xs[j]
  ·have hx:=AJL hjn hp he.symm
   simp -implicitDefEqProofs [hjn,<-he,hx]
  ·simp -implicitDefEqProofs [hjn,he]
   exact⟨k-1,by omega,j+1,by omega,Ad3 hjn hp (fun h=>he h.symm),by simp[hw]⟩
 ·have hx:AIo xs v= -1:=by unfold AIo;rw[if_neg (Ag8 (by omega) hp)]
  simp -implicitDefEqProofs [hjn,hx]
abbrev UQ:Prop:=∀(xs:List Int) (v:Int),xs.length<=maxLen->R [.sl 1 1 xs.length (ints xs),I v] [] (B (decide (v∈xs))) []
theorem AHI (hI:AGq (D 389)):UQ (Body D Ar5):=by
 intro xs v hl
 simp -implicitDefEqProofs
 refine Aa (hI xs v hl) ?_
 simp -implicitDefEqProofs [AKM]
theorem AoO:UQ (Body D QH):=by
 intro xs v hl
 unfold maxLen at hl
 simp -implicitDefEqProofs
 refine Ag (fun k s=>∃j,j+k=xs.length/\v∉xs.take j/\s=⟨[.sl 1 1 xs.length (ints xs),.sc (.int .i64 v),.undef,.sc (.int .i64 j),.undef,.undef],[]⟩) ?_ xs.length _ ⟨0,by simp,by simp,by simp⟩
 intro k s ⟨j,hj,hp,hs⟩
 subst hs
 by_cases hjn:j<xs.length
 ·have hw:=Cv (j:=j) (by omega)
  by_cases he:xs[j]=v
  ·have hx:=Amb hjn he
   simp -implicitDefEqProofs [hjn,he,hx]
  ·simp -implicitDefEqProofs [hjn,he]
   exact⟨k-1,by omega,j+1,by omega,Ad3 hjn hp he,by simp[hw]⟩
 ·have hx:=Ag8 (by omega) hp
  simp -implicitDefEqProofs [hjn,hx]
def Lj (v:Int) (d:BP):Bool:= !d.deal.ok||(decide (d.deal.version<v)&&decide (v∈d.up))
def goodD (v:Int) (d:BP):Bool:= !Lj v d&&decide (v<=d.deal.version)
def cntF {α:Type} (f:α->Bool) (xs:List α):Nat:=(xs.filter f).length
theorem AaP {α:Type} {f:α->Bool} {xs:List α} {j:Nat} (h:j<xs.length):cntF f (xs.take (j+1))=cntF f (xs.take j)+(if f xs[j]then 1 else 0):=by
 unfold cntF
 rw[List.take_add_one,List.getElem?_eq_getElem h,List.filter_append,List.length_append]
 congr 1
 by_cases hf:f xs[j]<;>simp[hf]
theorem Afa {α:Type} {f:α->Bool} {xs:List α} {j:Nat} (h:j<=xs.length):cntF f (xs.take j)<=j:=by
 unfold cntF
 have:=List.length_filter_le f (xs.take j)
 simp at this
 omega
theorem Afj {α:Type} {f:α->Bool} {xs:List α} {j:Nat} (h:xs.length<=j):cntF f (xs.take j)=cntF f xs:=by rw[List.take_of_length_le h]
abbrev NV:Prop:=∀(xs:List BP) (v:Int),xs.length<=maxLen->(∀(j:Nat) (h:j<xs.length),xs[j].up.length<=maxLen)->
 R [.sl 1 5 xs.length (xs.flatMap AB),I v] [] (.tup [I (cntF (goodD v) xs),I (cntF (Lj v) xs)]) []
theorem Af7 (hH:UQ (D 166)):NV (Body D Mg):=by
 intro xs v hl hu
 unfold maxLen at hl
 simp -implicitDefEqProofs
 refine Ag (fun k s=>∃j o0,j+k=xs.length/\s=⟨[.sl 1 5 xs.length (xs.flatMap AB),.sc (.int .i64 v),.undef,.undef,.sc (.int .i64 (cntF (goodD v) (xs.take j))),.sc (.int .i64 (cntF (Lj v) (xs.take j))),.sc (.int .i64 j),.undef,.undef,.undef,.undef],[o0]⟩) ?_ xs.length _ ⟨0,.free,by simp,by simp[cntF]⟩
 intro k s ⟨j,o0,hj,hs⟩
 subst hs
 by_cases hjn:j<xs.length
 ·have hw:=Cv (j:=j) (by omega)
  have hc:=AaP (f:=goodD v) hjn
  have hb:=AaP (f:=Lj v) hjn
  have hcl:=Afa (f:=goodD v) (xs:=xs) (j:=j) (by omega)
  have hbl:=Afa (f:=Lj v) (xs:=xs) (j:=j) (by omega)
  have hw2:IntKind.i64.wrap ((cntF (goodD v) (xs.take j):Int)+1)=(cntF (goodD v) (xs.take j)+1:Nat):=by rw[Ad (by omega) (by omega)];simp
  have hw3:IntKind.i64.wrap ((cntF (Lj v) (xs.take j):Int)+1)=(cntF (Lj v) (xs.take j)+1:Nat):=by rw[Ad (by omega) (by omega)];simp
  have fin:∀(a b:Bool),goodD v xs[j]=a->Lj v xs[j]=b->∀x y:Int,x=((cntF (goodD v) (xs.take j)+(if a then 1 else 0):Nat):Int)->y=((cntF (Lj v) (xs.take j)+(if b then 1 else 0):Nat):Int)->
   x=cntF (goodD v) (xs.take (j+1))/\y=cntF (Lj v) (xs.take (j+1)):=by
   intro a b ha hb' x y hx hy
   rw[hc,hb,ha,hb']
   exact⟨hx,hy⟩
  by_cases h1:xs[j].deal.ok=true
  ·by_cases h2:xs[j].deal.version<v
   ·simp -implicitDefEqProofs [hjn,h1,h2]
    refine Aa (hH xs[j].up v (hu j hjn)) ?_
    by_cases h3:v∈xs[j].up
    ·have g:=fin false true (by simp[goodD,Lj,h1,h2,h3]) (by simp[Lj,h1,h2,h3]) _ _ rfl rfl
     simp -implicitDefEqProofs [h3]
     exact⟨k-1,by omega,j+1,by omega,by simpa using g.1,by rw[hw3];simpa using g.2,by simp[hw]⟩
    ·have h4:¬v<=xs[j].deal.version:=by omega
     have g:=fin false false (by simp[goodD,Lj,h1,h2,h3,h4]) (by simp[Lj,h1,h2,h3]) _ _ rfl rfl
     simp -implicitDefEqProofs [h3,h4]
     exact⟨k-1,by omega,j+1,by omega,by simpa using g.1,by simpa using g.2,by simp[hw]⟩
   ·have h4:v<=xs[j].deal.version:=by omega
    have g:=fin true false (by simp[goodD,Lj,h1,h2,h4]) (by simp[Lj,h1,h2]) _ _ rfl rfl
    simp -implicitDefEqProofs [hjn,h1,h2,h4]
    exact⟨k-1,by omega,j+1,by omega,by rw[hw2];simpa using g.1,by simpa using g.2,by simp[hw]⟩
  ·have g:=fin false true (by simp[goodD,Lj,h1]) (by simp[Lj,h1]) _ _ rfl rfl
   simp -implicitDefEqProofs [hjn,h1]
   exact⟨k-1,by omega,j+1,by omega,by simpa using g.1,by rw[hw3];simpa using g.2,by simp[hw]⟩
 ·have hx:=Afj (f:=goodD v) (xs:=xs) (j:=j) (by omega)
  have hy:=Afj (f:=Lj v) (xs:=xs) (j:=j) (by omega)
  simp -implicitDefEqProofs [hjn,hx,hy]
abbrev PN:Prop:=∀(d:BP) (v:Int),d.up.length<=maxLen->R [arg (AB d),I v] [] (B (Lj v d)) []
theorem Aep (hM:NV (D 155)):PN (Body D Kw):=by
 intro d v hu
 simp -implicitDefEqProofs
 refine Aa (hM [d] v (by unfold maxLen;simp) (fun j h=>by have e:j=0:=(by simpa using h);subst e;exact hu)) ?_
 by_cases h:Lj v d<;>simp -implicitDefEqProofs [cntF,h]
theorem AKv (hH:UQ (D 188)):PN (Body D Ayx):=by
 intro d v hu
 by_cases h1:d.deal.ok=true
 ·by_cases h2:d.deal.version<v
  ·simp -implicitDefEqProofs [h1,h2]
   refine Aa (hH d.up v hu) ?_
   simp -implicitDefEqProofs [Lj,h1,h2]
  ·simp -implicitDefEqProofs [h1,h2,Lj]
 ·simp -implicitDefEqProofs [h1,Lj]
theorem AGt (hB:PN (D 229)):PN (Body D Avg):=by
 intro d v hu
 simp -implicitDefEqProofs
 refine Aa (hB d v hu) ?_
 simp -implicitDefEqProofs
set_option maxRecDepth 20000
abbrev M6 (a b c:Int):Prop:=b<=a/\a<=c
def J6 (g b l p:Int):Int:=
 if¬M6 g 0 10000∨¬M6 b 0 10000∨¬M6 l 1 10000∨¬M6 p 0 100 then 0
 else if 100*b>p*l/\100*b>p*(g+b)then 2
 else if g+b<l then 0
 else if 100*b<=p*(g+b)then 1
 else 2
abbrev RH:Prop:=∀g b l p:Int,R [I g,I b,I l,I p] [] (I (J6 g b l p)) []
theorem AdN {p x:Int} (h1:0<=p) (h2:p<=100) (h3:0<=x) (h4:x<=20000):IntKind.i64.wrap (p*x)=p*x:=by
 have a1:0<=p*x:=Int.mul_nonneg h1 h3
 have a2:p*x<=100*20000:=Int.mul_le_mul h2 h4 h3 (by omega)
 exact Ad (by omega) (by omega)
theorem Agg (hI:Vf (D 71)):RH (Body D Ma):=by
 intro g b l p
 simp -implicitDefEqProofs
 refine Aa (hI _ _ _) ?_
 by_cases h1:M6 g 0 10000
 rotate_left
 ·simp -implicitDefEqProofs [h1,J6]
 simp -implicitDefEqProofs [h1]
 refine Aa (hI _ _ _) ?_
 by_cases h2:M6 b 0 10000
 rotate_left
 ·simp -implicitDefEqProofs [h2,J6]
 simp -implicitDefEqProofs [h2]
 refine Aa (hI _ _ _) ?_
 by_cases h3:M6 l 1 10000
 rotate_left
 ·simp -implicitDefEqProofs [h3,J6]
 simp -implicitDefEqProofs [h3]
 refine Aa (hI _ _ _) ?_
 by_cases h4:M6 p 0 100
 rotate_left
 ·simp -implicitDefEqProofs [h4,J6]
 have w1:IntKind.i64.wrap (100*b)=100*b:=Ad (by omega) (by omega)
 have w2:=AdN h4.1 h4.2 (x:=l) (by omega) (by omega)
 have w3:=AdN h4.1 h4.2 (x:=g+b) (by omega) (by omega)
 have w4:IntKind.i64.wrap (g+b)=g+b:=Ad (by omega) (by omega)
 have e:J6 g b l p=if 100*b>p*l/\100*b>p*(g+b)then 2 else if g+b<l then 0 else if 100*b<=p*(g+b)then 1 else 2:=by unfold J6;rw[if_neg (by simp[h1,h2,h3,h4])]
 rw[e]
 clear e
 by_cases c1:p*l<100*b
 ·by_cases c2:p*(g+b)<100*b
  ·simp -implicitDefEqProofs [h4,w1,w2,w3,w4,c1,c2]
  ·have c3:100*b<=p*(g+b):=by omega
   by_cases c4:g+b<l
   ·simp -implicitDefEqProofs [h4,w1,w2,w3,w4,c1,c2,c3,c4]
   ·simp -implicitDefEqProofs [h4,w1,w2,w3,w4,c1,c2,c3,c4]
 ·by_cases c4:g+b<l
  ·simp -implicitDefEqProofs [h4,w1,w2,w3,w4,c1,c4]
  ·by_cases c3:100*b<=p*(g+b)
   ·simp -implicitDefEqProofs [h4,w1,w2,w3,w4,c1,c3,c4]
   ·simp -implicitDefEqProofs [h4,w1,w2,w3,w4,c1,c3,c4]
def Rc {α:Type} (p:α->Bool):List α->Int->Int
 | [],_=> -1
 | x::r,i=>if p x then i else Rc p r (i+1)
theorem AkE {α:Type} {p:α->Bool} {xs:List α} {j:Nat} (h:j<xs.length):Rc p (xs.drop j) j=if p xs[j]then(j:Int)else Rc p (xs.drop (j+1)) ((j:Int)+1):=by
 rw[List.drop_eq_getElem_cons h];rfl
theorem Am6 {α:Type} {p:α->Bool} {xs:List α} {j:Nat} (h:xs.length<=j):Rc p (xs.drop j) j= -1:=by rw[List.drop_eq_nil_of_le h];rfl
theorem AjA {α:Type} {p:α->Bool}:∀ {xs:List α} {i:Int},0<=i->(0<=Rc p xs i)=(xs.any p=true)
 | [],i,_=>by simp[Rc]
 | x::r,i,h=>by
  by_cases hp:p x=true
  ·simp[Rc,hp,h]
  ·have:=AjA (p:=p) (xs:=r) (i:=i+1) (by omega)
   simp[Rc,hp]at *
   exact this
def Atz (caps:List V):Prop:=(∀(H:Hp) (n:Nat),Gi H n (caps.map fun v=>(false,v))=some [])/\(∀(H Hr:Hp) (n:Nat),F6 H Hr n (caps.map fun v=>(false,v))=some caps)/\∀H:Hp,AlY H caps=some caps
theorem Api:Atz []:=⟨fun _ _=>rfl,fun _ _ _=>rfl,fun _=>rfl⟩
theorem AzW {v:V} {r:List V} (hv:∀H,ro H v=some v) (hv2:∀H,ro2 H v=some v) (h:Atz r):Atz (v::r):=
 ⟨fun H n=>h.1 H n,fun H Hr n=>by simp only[List.map_cons,F6,hv,h.2.1],fun H=>by simp only[AlY,hv2,h.2.2]⟩
theorem ABB {a:Int} {r:List V} (h:Atz r):Atz (.rptr 1 [.sc (.int .i64 a)] 0::r):=AzW (fun H=>by simp) (fun H=>by simp) h
abbrev Axr (D:Dn) (R:Rel):Prop:=∀(xs:List Int) (g:Nat) (caps:List V) (p:Int->Bool),xs.length<=maxLen->Atz caps->(∀x:Int,D g (I x::caps) [] (B (p x)) [])->
 R [.sl 1 1 xs.length (ints xs),.fn g caps] [] (I (Rc p xs 0)) []
theorem AHv:Axr D (Body D ArL):=by
 intro xs g caps p hl hc hp
 unfold maxLen at hl
 simp -implicitDefEqProofs
 refine Ag (fun k s=>∃j,j+k=xs.length/\Rc p xs 0=Rc p (xs.drop j) j/\s=⟨[.sl 1 1 xs.length (ints xs),.fn g caps,.undef,.undef,.sc (.int .i64 xs.length),.sc (.int .i64 j),.undef,.undef],[]⟩) ?_ xs.length _ ⟨0,by simp,by simp,by simp⟩
 intro k s ⟨j,hj,hi,hs⟩
 subst hs
 by_cases hjn:j<xs.length
 ·have hw:=Cv (j:=j) (by omega)
  rw[AkE hjn]at hi
  simp -implicitDefEqProofs [hjn,hc.1,hc.2.1]
  refine Aa (hp xs[j]) ?_
  by_cases he:p xs[j]=true
  ·rw[if_pos he]at hi
   simp -implicitDefEqProofs [he,hi]
  ·rw[if_neg he]at hi
   simp -implicitDefEqProofs [he]
   exact⟨k-1,by omega,j+1,by omega,by simpa using hi,by simp[hw]⟩
 ·rw[Am6 (by omega)]at hi
  simp -implicitDefEqProofs [hjn,hi]
abbrev Ate (D:Dn) (R:Rel):Prop:=∀(xs:List Int) (g:Nat) (caps:List V) (p:Int->Bool),xs.length<=maxLen->Atz caps->(∀x:Int,D g (I x::caps) [] (B (p x)) [])->
 R [.sl 1 1 xs.length (ints xs),.fn g caps] [] (B (xs.any p)) []
theorem AD8 (hI:Axr D (D 404)):Ate D (Body D Aqw):=by
 intro xs g caps p hl hc hp
 simp -implicitDefEqProofs [hc.2.2]
 refine Aa (hI xs g caps p hl hc hp) ?_
 have e:decide (0<=Rc p xs 0)=xs.any p:=by rw[Bool.eq_iff_iff];simp only[decide_eq_true_eq];rw[AjA (by omega)]
 simp -implicitDefEqProofs [e]
def allIn (xs:List Int) (lo hi:Int):Bool:=xs.all fun x=>decide (M6 x lo hi)
abbrev AsS:Prop:=∀(xs:List Int) (lo hi:Int),xs.length<=maxLen->R [.sl 1 1 xs.length (ints xs),I lo,I hi] [] (B (allIn xs lo hi)) []
abbrev AvQ:Prop:=∀(x lo hi:Int),R [I x,.rptr 1 [I lo] 0,.rptr 1 [I hi] 0] [] (B (!decide (M6 x lo hi))) []
theorem AEs (hI:Vf (D 114)):AvQ (Body D AtV):=by
 intro x lo hi
 simp -implicitDefEqProofs
 refine Aa (hI _ _ _) ?_
 simp -implicitDefEqProofs
theorem AFJ (h1:AvQ (D 266)) (hC:Ate D (D 267)):AsS (Body D AuC):=by
 intro xs lo hi hl
 simp -implicitDefEqProofs
 refine Aa (hC xs 266 _ (fun x=> !decide (M6 x lo hi)) hl (ABB (ABB Api)) (fun x=>h1 x lo hi)) ?_
 have e:(xs.any fun x=> !decide (M6 x lo hi))= !allIn xs lo hi:=by unfold allIn;rw[List.all_eq_not_any_not];simp
 generalize(xs.any fun x=> !decide (M6 x lo hi))=b at e⊢
 subst e
 simp -implicitDefEqProofs
structure Ext where
 tag:Int
 body:List Int
 deriving DecidableEq
structure Hello where
 versions:List Int
 exts:List Ext
 deriving DecidableEq
structure Nw where
 version:Int
 exts:List Ext
 deriving DecidableEq
def Cc (x:Ext):List V:=[.sc (.int .i64 x.tag),.sl 0 1 x.body.length (ints x.body)]
def Ck (h:Hello):List V:=[.sl 0 1 h.versions.length (ints h.versions),.sl 0 2 h.exts.length (h.exts.flatMap Cc)]
def RB (a:Nw):List V:=[.sc (.int .i64 a.version),.sl 0 2 a.exts.length (a.exts.flatMap Cc)]
theorem Mi (x:Ext):(Cc x).length=2:=rfl
@[simp] theorem Ar9 (xs:List Ext):(xs.flatMap Cc).map (AO 0)=xs.flatMap Cc:=R8 (fun _=>rfl) xs
@[simp high] theorem Ar7 {xs:List Ext} {j:Nat} (h:j<xs.length):ER (xs.flatMap Cc) (j*2) 2=some (Cc xs[j]):=JB Mi h
@[simp high] theorem LF (xs:List Ext):(xs.flatMap Cc).length=xs.length*2:=Iq Mi xs
@[simp high] theorem Aok {xs:List Ext} {j:Nat} (h:j<xs.length):(xs.flatMap Cc)[j*2]? =some (.sc (.int .i64 xs[j].tag)):=by
 have:=Aq (o:=0) Mi h (by omega)
 simpa[Cc]using this
@[simp high] theorem ArZ {xs:List Ext} {j:Nat} (h:j<xs.length):(xs.flatMap Cc)[j*2+1]? =some (.sl 0 1 xs[j].body.length (ints xs[j].body)):=by
 have:=Aq (o:=1) Mi h (by omega)
 simpa[Cc]using this
theorem Ali {α:Type} {f:α->List V} {e:Nat} (hf:∀x,(f x).length=e) (xs:List α) (i:Nat):(xs.flatMap f).take (i*e)=(xs.take i).flatMap f:=by
 induction xs generalizing i with
 | nil=>simp
 | cons x xs ih=>
  cases i with
  | zero=>simp
  | succ i=>
   simp only[List.flatMap_cons,List.take_succ_cons]
   rw[<-ih i,show(i+1)*e=(f x).length+i*e by rw[hf,Nat.add_mul];omega,List.take_length_add_append]
theorem AlC {α:Type} {f:α->List V} {e:Nat} (hf:∀x,(f x).length=e) (xs:List α) (o n:Nat):part (xs.flatMap f) e o n=((xs.drop o).take n).flatMap f:=by
 unfold part
 rw[RA hf,Ali hf]
@[simp high] theorem Aq3 (xs:List Ext) (o n:Nat):part (xs.flatMap Cc) 2 o n=((xs.drop o).take n).flatMap Cc:=AlC Mi xs o n
attribute [simp] Cc Ck RB
def OD (l:List Ext):Prop:=l.length<=4194304/\∀x,x∈l->x.body.length<=4194304
theorem P5 {l:List Ext} (h:OD l) {j:Nat} (hj:j<l.length):l[j].body.length<=4194304:=h.2 _ (List.getElem_mem hj)
theorem Afg:OD []:=⟨by simp,by simp⟩
theorem Aia {l:List Ext} (h:OD l) (p:Ext->Bool):OD (l.filter p):=
 ⟨Nat.le_trans (List.length_filter_le p l) h.1,fun x hx=>h.2 x (List.mem_filter.1 hx).1⟩
def Oj (q:Nat->Bool) (j:Nat):Bool:=(List.range j).all q
@[simp] theorem AqK (q:Nat->Bool):Oj q 0=true:=rfl
theorem LY (q:Nat->Bool) (j:Nat):Oj q (j+1)=(Oj q j&&q j):=by
 unfold Oj
 rw[List.range_succ,List.all_append]
 simp
theorem AhE {q:Nat->Bool} {j n:Nat} (h:j<n) (hn:q j=false):Oj q n=false:=by
 have:∀m,Oj q (j+1+m)=false:=by
  intro m
  induction m with
  | zero=>rw[Nat.add_zero,LY,hn];simp
  | succ m ih=>rw[show j+1+(m+1)=(j+1+m)+1 by omega,LY,ih];rfl
 have:=this (n-(j+1))
 rwa [show j+1+(n-(j+1))=n by omega]at this
theorem V7 {q:Nat->Bool} {n:Nat}:Oj q n=true↔∀i,i<n->q i=true:=by
 unfold Oj
 rw[List.all_eq_true]
 simp
theorem AaH {α:Type} {p:α->Bool} {xs:List α} {j:Nat} (h:j<xs.length):(xs.take (j+1)).filter p=(xs.take j).filter p++(if p xs[j]then [xs[j]]else []):=by
 have e:xs.take (j+1)=xs.take j++ [xs[j]]:=by simp
 rw[e,List.filter_append]
 by_cases hp:p xs[j]=true<;>simp[hp]
theorem AdG {α:Type} {p:α->Bool} {xs:List α} {j:Nat} (h:xs.length<=j):(xs.take j).filter p=xs.filter p:=by rw[List.take_of_length_le h]
theorem Adw {α:Type} {p:α->Bool} {xs:List α} {j:Nat}:((xs.take j).filter p).length<=j:=by
 have:=List.length_filter_le p (xs.take j)
 have h2:(xs.take j).length<=j:=by simp;omega
 omega
open Go.Lib
set_option maxHeartbeats 4000000
@[simp] theorem ADW (xs:List (List UInt8)) (j:Nat):(strs xs)[j]? =(xs[j]?).map fun x=>Sb x:=by simp[strs]
@[simp] theorem ALk (xs:List (List UInt8)) (j:Nat) (h:j<(strs xs).length):(strs xs)[j]=Sb (xs[j]'(by simpa using h)):=by simp[strs]
def Au2 (ws:List (List UInt8)):Bool:=ws.all AsY
def numsOf (ws:List (List UInt8)):List Int:=ws.map Ave
theorem ADn (ws:List (List UInt8)):(numsOf ws).length=ws.length:=by simp[numsOf]
theorem AKJ (ws:List (List UInt8)):DK (numsOf ws):=by
 intro x hx
 obtain⟨w,_,rfl⟩:=List.mem_map.1 hx
 exact(AIV w).1
def ALs (ws:List (List UInt8)):Prop:=ws.length<=4194304/\∀w,w∈ws->w.length<=4194304
abbrev AIO (f:List (List UInt8)->List Int) (R:Rel):Prop:=∀ws,ALs ws->R [.sl 1 1 ws.length (strs ws)] [] (.tup [.sl 0 1 (f ws).length (ints (f ws)),B (Au2 ws)]) []
def ANU (ws:List (List UInt8)):List Int:=(ws.takeWhile AsY).map Ave
def ADv (ws:List (List UInt8)):List Int:=if Au2 ws=true then ws.map Ave else []
theorem AO0:∀ {ws:List (List UInt8)},Au2 ws=true->ws.takeWhile AsY=ws
 | [],_=>rfl
 | w::r,h=>by
  simp only[Au2,List.all_cons,Bool.and_eq_true]at h
  rw[List.takeWhile_cons,if_pos h.1,AO0 (ws:=r) h.2]
theorem APx {ws:List (List UInt8)} (h:Au2 ws=true):ANU ws=numsOf ws:=by unfold ANU numsOf;rw[AO0 h]
theorem AJ7 {ws:List (List UInt8)} (h:Au2 ws=true):ADv ws=numsOf ws:=by unfold ADv numsOf;rw[if_pos h]
theorem APK:∀ {ws:List (List UInt8)} {j:Nat} (h:j<ws.length),(ws.take j).all AsY=true->AsY ws[j]=false->ws.takeWhile AsY=ws.take j
 | [],j,h,_,_=>by simp at h
 | w::r,0,_,_,h=>by
  have h:AsY w=false:=h
  rw[List.takeWhile_cons,h];simp
 | w::r,j+1,hj,ha,h=>by
  simp only[List.take_succ_cons,List.all_cons,Bool.and_eq_true]at ha
  rw[List.takeWhile_cons,if_pos ha.1,APK (ws:=r) (j:=j) (by simpa using hj) ha.2 (by simpa using h),List.take_succ_cons]
theorem AKy {ws:List (List UInt8)} {j:Nat} (h:j<ws.length) (hn:AsY ws[j]=false):Au2 ws=false:=by
 unfold Au2
 rw[List.all_eq_false]
 exact⟨ws[j],List.getElem_mem h,by simp[hn]⟩
theorem AJo {ws:List (List UInt8)} {j:Nat} (h:j<ws.length):(ws.take (j+1)).all AsY=((ws.take j).all AsY&&AsY ws[j]):=by
 rw[<-List.take_append_getElem h,List.all_append];simp
theorem AKN {ws:List (List UInt8)} {j:Nat} (h:j<ws.length):(ws.map Ave).take (j+1)=(ws.map Ave).take j++ [Ave ws[j]]:=by
 rw[<-List.map_take,<-List.map_take,<-List.take_append_getElem h,List.map_append];rfl
theorem APe (hP:ABY (D 68)):AIO ANU (Body D AMe):=by
 intro ws ⟨hl,hw1⟩
 simp -implicitDefEqProofs
 refine Ag (fun k s=>∃j o0 o1 o2,j+k=ws.length/\(ws.take j).all AsY=true/\s=⟨[.sl 1 1 ws.length (strs ws),.undef,.undef,.arr 3,I j,.undef,.undef,.undef,.undef],[o0,o1,o2,.arr 1 0 j (ints ((ws.map Ave).take j))]⟩) ?_ (ws.length) _ ⟨0,.free,.free,.free,by simp,by simp,by simp⟩
 intro k s ⟨j,o0,o1,o2,hj,ha,hs⟩
 subst hs
 by_cases hjn:j<ws.length
 ·have hw:=Cv (j:=j) (by omega)
  have hst:=AJo hjn
  have hps:=AKN hjn
  have hjl:min j ws.length=j:=by omega
  have b1:(j+1)*8<=1099511627776:=by omega
  simp -implicitDefEqProofs [hjn]
  refine Aa (hP ws[j] (hw1 _ (List.getElem_mem hjn))) ?_
  by_cases hn:AsY ws[j]=true
  ·have ha2:(ws.take (j+1)).all AsY=true:=by rw[hst,ha,hn];rfl
   simp -implicitDefEqProofs [hn,b1,hw,hjl]
   exact⟨k-1,by omega,j+1,by omega,by simpa using ha2,by rw[hps];simp⟩
  ·have hn':AsY ws[j]=false:=by simpa using hn
   have e:=APK hjn ha hn'
   have e2:=AKy hjn hn'
   simp -implicitDefEqProofs [hn',e2,ANU,e,hjl]
 ·obtain rfl:j=ws.length:=by omega
  have e2:Au2 ws=true:=by unfold Au2;rw[List.take_length]at ha;exact ha
  have e3:(ws.map Ave).take ws.length=ws.map Ave:=List.take_of_length_le (by simp)
  simp -implicitDefEqProofs [e2,ANU,AO0 e2,e3]
theorem AGz (hP:ABY (D 104)):AIO ADv (Body D AvK):=by
 intro ws ⟨hl,hw1⟩
 simp -implicitDefEqProofs
 refine Ag (fun k s=>∃j o0 o1 o2,j+k=ws.length/\(ws.take j).all AsY=true/\s=⟨[.undef,.undef,.undef,.arr 3,.undef,.undef,.undef,.sl 1 1 ws.length (strs ws),I ws.length,I j,.undef,.undef],[o0,o1,o2,.arr 1 0 j (ints ((ws.map Ave).take j))]⟩) ?_ (ws.length) _ ⟨0,.free,.free,.free,by simp,by simp,by simp⟩
 intro k s ⟨j,o0,o1,o2,hj,ha,hs⟩
 subst hs
 by_cases hjn:j<ws.length
 ·have hw:=Cv (j:=j) (by omega)
  have hst:=AJo hjn
  have hps:=AKN hjn
  have hjl:min j ws.length=j:=by omega
  have b1:(j+1)*8<=1099511627776:=by omega
  simp -implicitDefEqProofs [hjn]
  refine Aa (hP ws[j] (hw1 _ (List.getElem_mem hjn))) ?_
  by_cases hn:AsY ws[j]=true
  ·have ha2:(ws.take (j+1)).all AsY=true:=by rw[hst,ha,hn];rfl
   simp -implicitDefEqProofs [hn,b1,hw,hjl]
   exact⟨k-1,by omega,j+1,by omega,by simpa using ha2,by rw[hps];simp⟩
  ·have hn':AsY ws[j]=false:=by simpa using hn
   have e2:=AKy hjn hn'
   simp -implicitDefEqProofs [hn',e2,ADv]
 ·obtain rfl:j=ws.length:=by omega
  have e2:Au2 ws=true:=by unfold Au2;rw[List.take_length]at ha;exact ha
  have e3:(ws.map Ave).take ws.length=ws.map Ave:=List.take_of_length_le (by simp)
  simp -implicitDefEqProofs [e2,ADv,e3]
def ACW:List (List UInt8)->List UInt8->Nat->Int
 | [],_,_=> -1
 | x::r,v,j=>if v=x then(j:Int)else ACW r v (j+1)
theorem AKO {xs:List (List UInt8)} {j:Nat} (h:j<xs.length) (v:List UInt8):ACW (xs.drop j) v j=if v=xs[j]then(j:Int)else ACW (xs.drop (j+1)) v (j+1):=by
 rw[List.drop_eq_getElem_cons h,ACW]
abbrev AC6:Prop:=∀(xs:List (List UInt8)) (v:List UInt8),xs.length<=4194304->R [.sl 1 1 xs.length (strs xs),Sb v] [] (I (ACW xs v 0)) []
theorem AIv:AC6 (Body D AqZ):=by
 intro xs v hl
 simp -implicitDefEqProofs
 refine Ag (fun k s=>∃j,j+k=xs.length/\ACW (xs.drop j) v j=ACW xs v 0/\s=⟨[.sl 1 1 xs.length (strs xs),Sb v,.undef,.undef,I xs.length,I j,.undef,.undef],[]⟩) ?_ (xs.length) _ ⟨0,by simp,by simp,by simp⟩
 intro k s ⟨j,hj,hi,hs⟩
 subst hs
 by_cases hjn:j<xs.length
 ·have hw:=Cv (j:=j) (by omega)
  have hat:=AKO hjn v
  by_cases he:v=xs[j]
  ·rw[if_pos he,hi]at hat
   simp -implicitDefEqProofs [hjn,<-he,hat]
  ·rw[if_neg he,hi]at hat
   simp -implicitDefEqProofs [hjn,he,hw]
   exact⟨k-1,by omega,j+1,by omega,hat.symm,by simp⟩
 ·have hx:ACW xs v 0= -1:=by rw[<-hi,List.drop_of_length_le (by omega)];rfl
  simp -implicitDefEqProofs [hjn,hx]
def AsO:EG:=⟨0,[],[],false⟩
def kindOf (w:List UInt8):Int:=
 if w=[100,105,97,108]then 1 else if w=[115,116,97,114,116]then 2 else if w=[115,116,97,103,101]then 3 else if w=[114,101,116,105,114,101]then 4
 else if w=[114,101,118,105,118,101]then 5 else if w=[99,108,101,97,114]then 7 else if w=[116,105,99,107]then 8 else 0
def Aww (k:Int) (n:Nat):Bool:=(decide (k=2∨k=3)&&decide (n=0))||(!decide (k=2∨k=3)&&decide (n=1))
def Ark (w:List UInt8) (n:List Int):Event:=
 if w=[108,105,109,105,116]/\n.length=2 then⟨6,n.getD 0 0,⟨n.getD 1 0,[],[],false⟩⟩
 else if w=[115,116,114,105,112]/\n.length=2 then⟨6,n.getD 0 0,⟨0,[],[n.getD 1 0],false⟩⟩
 else if 0<kindOf w/\Aww (kindOf w) n.length=true then⟨kindOf w,n.getD 0 0,AsO⟩else⟨0,0,AsO⟩
theorem AIT (w:List UInt8):0<=kindOf w/\kindOf w<=8/\kindOf w≠6:=by
 unfold kindOf
 repeat' split
 all_goals omega
theorem APg {w:List UInt8} {k:Int} (h1:1<=k) (h2:k<=8) (h6:k≠6):(ALe k=Ww w)↔kindOf w=k:=by
 have key:∀l:List UInt8,(Ww l=Ww w)↔w=l:=fun l=>⟨fun h=>by have:=congrArg ByteArray.toList h;simpa using this.symm,fun h=>by rw[h]⟩
 have hk:k=1∨k=2∨k=3∨k=4∨k=5∨k=7∨k=8:=by omega
 rcases hk with rfl | rfl | rfl | rfl | rfl | rfl | rfl
 all_goals
  show(Ww _=Ww w)↔_
  rw[key]
  unfold kindOf
  constructor
  ·intro h;subst h;decide
  ·intro h;repeat' split at h
   all_goals first | assumption | omega
abbrev AMS:Prop:=∀(w:List UInt8) (n:List Int),n.length<=4194304->R [Sb w,.sl 1 1 n.length (ints n)] [] (.agg (BJ (Ark w n))) []
abbrev AyW:Prop:=∀(w:List UInt8) (n:List Int),n.length<=4194304->w≠ []->R [Sb w,.sl 1 1 n.length (ints n)] [] (.tup [.agg (BJ (Ark w n)),B (decide (0<(Ark w n).kind))]) []
theorem ALh {n:List Int} (h:n.length=2):∃a b,n=[a,b]:=by
 match n,h with
 | [a,b],_=>exact⟨a,b,rfl⟩
theorem AJN {n:List Int} (h:n.length=1):∃a,n=[a]:=by
 match n,h with
 | [a],_=>exact⟨a,rfl⟩
def names8:List (List UInt8):=[[100,105,97,108],[115,116,97,114,116],[115,116,97,103,101],[114,101,116,105,114,101],[114,101,118,105,118,101],[],[99,108,101,97,114],[116,105,99,107]]
theorem AJ2 {w:List UInt8} (h:w≠ []):ACW names8 w 0+1=kindOf w:=by
 unfold names8 kindOf
 simp only[ACW]
 rw[if_neg h]
 repeat' split
 all_goals rfl
theorem AKf {w:List UInt8} {a b:Int} (h:w=[108,105,109,105,116]):Ark w [a,b]=⟨6,a,⟨b,[],[],false⟩⟩:=by subst h;rfl
theorem AKn {w:List UInt8} {a b:Int} (h:w=[115,116,114,105,112]):Ark w [a,b]=⟨6,a,⟨0,[],[b],false⟩⟩:=by subst h;rfl
theorem AC3 {w:List UInt8} {n:List Int} (h1:¬(w=[108,105,109,105,116]/\n.length=2)) (h2:¬(w=[115,116,114,105,112]/\n.length=2)):
 Ark w n=if 0<kindOf w/\Aww (kindOf w) n.length=true then⟨kindOf w,n.getD 0 0,AsO⟩else⟨0,0,AsO⟩:=by
 unfold Ark;rw[if_neg h1,if_neg h2]
theorem AJj (hI:AC6 (D 105)):AyW (Body D AwS):=by
 intro w n hn hw0
 have hidx:=hI names8 w (by decide)
 have hx:=AJ2 hw0
 have hkr:=AIT w
 have hwk:IntKind.i64.wrap (ACW names8 w 0+1)=kindOf w:=by rw[hx,Ad (by omega) (by omega)]
 generalize ACW names8 w 0=i at hidx hwk
 simp -implicitDefEqProofs
 refine Aa (show _ from hidx) ?_
 clear hidx hx
 by_cases l2:n.length=2
 ·obtain⟨a,b,rfl⟩:=ALh l2
  by_cases c1:w=[108,105,109,105,116]
  ·have he:=AKf (a:=a) (b:=b) c1
   simp -implicitDefEqProofs [hwk,c1]at he⊢
   simp -implicitDefEqProofs [he,BJ]
  ·by_cases c2:w=[115,116,114,105,112]
   ·have he:=AKn (a:=a) (b:=b) c2
    simp -implicitDefEqProofs [hwk,c2]at he⊢
    simp -implicitDefEqProofs [he,BJ,ints]
   ·have he:=AC3 (w:=w) (n:=[a,b]) (by simp[c1]) (by simp[c2])
    rw[he]
    clear he
    generalize kindOf w=kk at hkr hwk
    by_cases k2:kk=2
    ·subst k2
     simp -implicitDefEqProofs [hwk,c1,c2,Aww,BJ,AsO,ints]
    by_cases k3:kk=3
    ·subst k3
     simp -implicitDefEqProofs [hwk,c1,c2,Aww,BJ,AsO,ints]
    by_cases kp:0<kk
    all_goals simp -implicitDefEqProofs [hwk,c1,c2,k2,k3,kp,Aww,BJ,AsO,ints]
 ·have l2':¬(n.length:Int)=2:=by omega
  have he:=AC3 (w:=w) (n:=n) (by simp[l2]) (by simp[l2])
  rw[he]
  clear he
  generalize kindOf w=kk at hkr hwk
  by_cases l0:n.length=0
  ·obtain rfl:n=[]:=List.eq_nil_of_length_eq_zero l0
   by_cases k2:kk=2
   ·subst k2
    by_cases c1:w=[108,105,109,105,116]<;>by_cases c2:w=[115,116,114,105,112]
    all_goals simp -implicitDefEqProofs [hwk,c1,c2,Aww,BJ,AsO,ints,l0]
   by_cases k3:kk=3
   ·subst k3
    by_cases c1:w=[108,105,109,105,116]<;>by_cases c2:w=[115,116,114,105,112]
    all_goals simp -implicitDefEqProofs [hwk,c1,c2,Aww,BJ,AsO,ints,l0]
   by_cases kp:0<kk<;>by_cases c1:w=[108,105,109,105,116]<;>by_cases c2:w=[115,116,114,105,112]
   all_goals simp -implicitDefEqProofs [hwk,c1,c2,k2,k3,kp,Aww,BJ,AsO,ints,l0]
  ·have l0':¬(n.length:Int)=0:=by omega
   by_cases l1:n.length=1
   ·obtain⟨a,rfl⟩:=AJN l1
    by_cases k2:kk=2
    ·subst k2
     by_cases c1:w=[108,105,109,105,116]<;>by_cases c2:w=[115,116,114,105,112]
     all_goals simp -implicitDefEqProofs [hwk,c1,c2,Aww,BJ,AsO,ints,l1]
    by_cases k3:kk=3
    ·subst k3
     by_cases c1:w=[108,105,109,105,116]<;>by_cases c2:w=[115,116,114,105,112]
     all_goals simp -implicitDefEqProofs [hwk,c1,c2,Aww,BJ,AsO,ints,l1]
    by_cases kp:0<kk<;>by_cases c1:w=[108,105,109,105,116]<;>by_cases c2:w=[115,116,114,105,112]
    all_goals simp -implicitDefEqProofs [hwk,c1,c2,k2,k3,kp,Aww,BJ,AsO,ints,l1]
   ·have l1':¬(n.length:Int)=1:=by omega
    by_cases k2:kk=2
    ·subst k2
     by_cases c1:w=[108,105,109,105,116]<;>by_cases c2:w=[115,116,114,105,112]
     all_goals simp -implicitDefEqProofs [hwk,c1,c2,Aww,BJ,AsO,ints,l0,l1,l2,l0',l1',l2']
    by_cases k3:kk=3
    ·subst k3
     by_cases c1:w=[108,105,109,105,116]<;>by_cases c2:w=[115,116,114,105,112]
     all_goals simp -implicitDefEqProofs [hwk,c1,c2,Aww,BJ,AsO,ints,l0,l1,l2,l0',l1',l2']
    by_cases kp:0<kk<;>by_cases c1:w=[108,105,109,105,116]<;>by_cases c2:w=[115,116,114,105,112]
    all_goals simp -implicitDefEqProofs [hwk,c1,c2,k2,k3,kp,Aww,BJ,AsO,ints,l0,l1,l2,l0',l1',l2']
end Go.Eng.T
namespace Go.Eng.T
open Go.Lib
set_option maxRecDepth 20000
set_option maxHeartbeats 4000000
theorem AKd {w:List UInt8} {k:Int} (h1:1<=k) (h2:k<=8) (h6:k≠6):((ALe k).toList=w)↔kindOf w=k:=by
 rw[<-APg h1 h2 h6]
 have hk:k=1∨k=2∨k=3∨k=4∨k=5∨k=7∨k=8:=by omega
 rcases hk with rfl | rfl | rfl | rfl | rfl | rfl | rfl
 all_goals
  show((Ww _).toList=w)↔(Ww _=Ww w)
  rw[AK6]
  exact⟨fun h=>by rw[h],fun h=>by have:=congrArg ByteArray.toList h;simpa using this⟩
theorem AMK {w:List UInt8} {n:List Int} {k:Int} (hk:kindOf w=k) (hp:0<k) (hg:Aww k n.length=true) (h1:w≠ [108,105,109,105,116]) (h2:w≠ [115,116,114,105,112]):
 Ark w n=⟨k,n.getD 0 0,AsO⟩:=by
 rw[AC3 (fun h=>h1 h.1) (fun h=>h2 h.1),hk,if_pos ⟨hp,hg⟩]
theorem AC1 {w:List UInt8} {n:List Int} {j:Nat} (hnm:¬(0<kindOf w/\kindOf w<=j/\Aww (kindOf w) n.length=true)) (h:kindOf w≠(j:Int)+1∨Aww (kindOf w) n.length=false):
 ¬(0<kindOf w/\kindOf w<=(j+1:Nat)/\Aww (kindOf w) n.length=true):=by
 rintro ⟨a,b,c⟩
 rcases h with h | h
 ·exact hnm ⟨a,by omega,c⟩
 ·rw[h]at c;cases c
variable (D:Dn)
theorem AOY (hE:AMm (D 73)):AMS (Body D AL4):=by
 intro w n hn
 have hkr:=AIT w
 simp -implicitDefEqProofs
 refine Ag (fun k s=>∃j v4,j+k=8/\¬(0<kindOf w/\kindOf w<=j/\Aww (kindOf w) n.length=true)/\s=⟨[Sb w,.sl 1 1 n.length (ints n),.ptr 0 0,I (j+1),v4,.undef,.undef,.undef,.undef,.undef,.undef],[.var [I 0,I 0,I 0,.nil 1,.nil 1,B false],.free]⟩) ?_ (8) _ ⟨0,.undef,by simp,by omega,by simp⟩
 intro k s ⟨j,v4,hj,hnm,hs⟩
 subst hs
 by_cases hj8:j<8
 ·have hjs:j=0∨j=1∨j=2∨j=3∨j=4∨j=5∨j=6∨j=7:=by omega
  rcases hjs with rfl | rfl | rfl | rfl | rfl | rfl | rfl | rfl
  ·simp -implicitDefEqProofs
   refine Aa (hE 1) ?_
   have e:ALe 1=Ww [100,105,97,108]:=rfl
   by_cases c:w=[100,105,97,108]
   ·by_cases l1:n.length=1
    ·have hev:=AMK (n:=n) (show kindOf w=1 by rw[c];decide) (by omega) (by rw[l1];decide) (by rw[c];decide) (by rw[c];decide)
     obtain⟨x,rfl⟩:=AJN l1
     simp -implicitDefEqProofs [e,c]at hev⊢
     simp -implicitDefEqProofs [hev,BJ,AsO,ints]
    ·have l1':¬(n.length:Int)=1:=by omega
     have hx:=AC1 hnm (.inr (by rw[show kindOf w=1 by rw[c];decide];unfold Aww;simp[l1]))
     simp -implicitDefEqProofs [e,c,l1,l1']
     exact⟨k-1,by omega,1,by omega,by simpa[c]using hx,by simp;rfl⟩
   ·have hx:=AC1 hnm (.inl (by
     intro h
     have h2:=(AKd (w:=w) (k:=1) (by omega) (by omega) (by omega)).2 (by simpa using h)
     rw[e,AK6]at h2
     exact c h2.symm))
    have c':¬([100,105,97,108]=w):=fun h=>c h.symm
    simp -implicitDefEqProofs [e,c,c']
    exact⟨k-1,by omega,1,by omega,by simpa using hx,by simp;rfl⟩
  ·simp -implicitDefEqProofs
   refine Aa (hE 2) ?_
   have e:ALe 2=Ww [115,116,97,114,116]:=rfl
   by_cases c:w=[115,116,97,114,116]
   ·by_cases l0:n.length=0
    ·have hev:=AMK (n:=n) (show kindOf w=2 by rw[c];decide) (by omega) (by rw[l0];decide) (by rw[c];decide) (by rw[c];decide)
     obtain rfl:n=[]:=List.eq_nil_of_length_eq_zero l0
     simp -implicitDefEqProofs [e,c]at hev⊢
     simp -implicitDefEqProofs [hev,BJ,AsO,ints]
    ·have l0':¬(n.length:Int)=0:=by omega
     have hx:=AC1 hnm (.inr (by rw[show kindOf w=2 by rw[c];decide];unfold Aww;simp[l0]))
     simp -implicitDefEqProofs [e,c,l0,l0']
     exact⟨k-1,by omega,2,by omega,by simpa[c]using hx,by simp;rfl⟩
   ·have hx:=AC1 hnm (.inl (by
     intro h
     have h2:=(AKd (w:=w) (k:=2) (by omega) (by omega) (by omega)).2 (by simpa using h)
     rw[e,AK6]at h2
     exact c h2.symm))
    have c':¬([115,116,97,114,116]=w):=fun h=>c h.symm
    simp -implicitDefEqProofs [e,c,c']
    exact⟨k-1,by omega,2,by omega,by simpa using hx,by simp;rfl⟩
  ·simp -implicitDefEqProofs
   refine Aa (hE 3) ?_
   have e:ALe 3=Ww [115,116,97,103,101]:=rfl
   by_cases c:w=[115,116,97,103,101]
   ·by_cases l0:n.length=0
    ·have hev:=AMK (n:=n) (show kindOf w=3 by rw[c];decide) (by omega) (by rw[l0];decide) (by rw[c];decide) (by rw[c];decide)
     obtain rfl:n=[]:=List.eq_nil_of_length_eq_zero l0
     simp -implicitDefEqProofs [e,c]at hev⊢
     simp -implicitDefEqProofs [hev,BJ,AsO,ints]
    ·have l0':¬(n.length:Int)=0:=by omega
     have hx:=AC1 hnm (.inr (by rw[show kindOf w=3 by rw[c];decide];unfold Aww;simp[l0]))
     simp -implicitDefEqProofs [e,c,l0,l0']
     exact⟨k-1,by omega,3,by omega,by simpa[c]using hx,by simp;rfl⟩
   ·have hx:=AC1 hnm (.inl (by
     intro h
     have h2:=(AKd (w:=w) (k:=3) (by omega) (by omega) (by omega)).2 (by simpa using h)
     rw[e,AK6]at h2
     exact c h2.symm))
    have c':¬([115,116,97,103,101]=w):=fun h=>c h.symm
    simp -implicitDefEqProofs [e,c,c']
    exact⟨k-1,by omega,3,by omega,by simpa using hx,by simp;rfl⟩
  ·simp -implicitDefEqProofs
   refine Aa (hE 4) ?_
   have e:ALe 4=Ww [114,101,116,105,114,101]:=rfl
   by_cases c:w=[114,101,116,105,114,101]
   ·by_cases l1:n.length=1
    ·have hev:=AMK (n:=n) (show kindOf w=4 by rw[c];decide) (by omega) (by rw[l1];decide) (by rw[c];decide) (by rw[c];decide)
     obtain⟨x,rfl⟩:=AJN l1
     simp -implicitDefEqProofs [e,c]at hev⊢
     simp -implicitDefEqProofs [hev,BJ,AsO,ints]
    ·have l1':¬(n.length:Int)=1:=by omega
     have hx:=AC1 hnm (.inr (by rw[show kindOf w=4 by rw[c];decide];unfold Aww;simp[l1]))
     simp -implicitDefEqProofs [e,c,l1,l1']
     exact⟨k-1,by omega,4,by omega,by simpa[c]using hx,by simp;rfl⟩
   ·have hx:=AC1 hnm (.inl (by
     intro h
     have h2:=(AKd (w:=w) (k:=4) (by omega) (by omega) (by omega)).2 (by simpa using h)
     rw[e,AK6]at h2
     exact c h2.symm))
    have c':¬([114,101,116,105,114,101]=w):=fun h=>c h.symm
    simp -implicitDefEqProofs [e,c,c']
    exact⟨k-1,by omega,4,by omega,by simpa using hx,by simp;rfl⟩
  ·simp -implicitDefEqProofs
   refine Aa (hE 5) ?_
   have e:ALe 5=Ww [114,101,118,105,118,101]:=rfl
   by_cases c:w=[114,101,118,105,118,101]
   ·by_cases l1:n.length=1
    ·have hev:=AMK (n:=n) (show kindOf w=5 by rw[c];decide) (by omega) (by rw[l1];decide) (by rw[c];decide) (by rw[c];decide)
     obtain⟨x,rfl⟩:=AJN l1
     simp -implicitDefEqProofs [e,c]at hev⊢
     simp -implicitDefEqProofs [hev,BJ,AsO,ints]
    ·have l1':¬(n.length:Int)=1:=by omega
     have hx:=AC1 hnm (.inr (by rw[show kindOf w=5 by rw[c];decide];unfold Aww;simp[l1]))
     simp -implicitDefEqProofs [e,c,l1,l1']
     exact⟨k-1,by omega,5,by omega,by simpa[c]using hx,by simp;rfl⟩
   ·have hx:=AC1 hnm (.inl (by
     intro h
     have h2:=(AKd (w:=w) (k:=5) (by omega) (by omega) (by omega)).2 (by simpa using h)
     rw[e,AK6]at h2
     exact c h2.symm))
    have c':¬([114,101,118,105,118,101]=w):=fun h=>c h.symm
    simp -implicitDefEqProofs [e,c,c']
    exact⟨k-1,by omega,5,by omega,by simpa using hx,by simp;rfl⟩
  ·simp -implicitDefEqProofs
   refine Aa (hE 6) ?_
   have e:ALe 6=Ww [98,111,120]:=rfl
   have hx:=AC1 hnm (.inl (by simpa using hkr.2.2))
   by_cases c': [98,111,120]=w
   ·simp -implicitDefEqProofs [e,<-c']
    exact⟨k-1,by omega,6,by omega,by simpa[<-c']using hx,by simp;rfl⟩
   ·simp -implicitDefEqProofs [e,c']
    exact⟨k-1,by omega,6,by omega,by simpa using hx,by simp;rfl⟩
  ·simp -implicitDefEqProofs
   refine Aa (hE 7) ?_
   have e:ALe 7=Ww [99,108,101,97,114]:=rfl
   by_cases c:w=[99,108,101,97,114]
   ·by_cases l1:n.length=1
    ·have hev:=AMK (n:=n) (show kindOf w=7 by rw[c];decide) (by omega) (by rw[l1];decide) (by rw[c];decide) (by rw[c];decide)
     obtain⟨x,rfl⟩:=AJN l1
     simp -implicitDefEqProofs [e,c]at hev⊢
     simp -implicitDefEqProofs [hev,BJ,AsO,ints]
    ·have l1':¬(n.length:Int)=1:=by omega
     have hx:=AC1 hnm (.inr (by rw[show kindOf w=7 by rw[c];decide];unfold Aww;simp[l1]))
     simp -implicitDefEqProofs [e,c,l1,l1']
     exact⟨k-1,by omega,7,by omega,by simpa[c]using hx,by simp;rfl⟩
   ·have hx:=AC1 hnm (.inl (by
     intro h
     have h2:=(AKd (w:=w) (k:=7) (by omega) (by omega) (by omega)).2 (by simpa using h)
     rw[e,AK6]at h2
     exact c h2.symm))
    have c':¬([99,108,101,97,114]=w):=fun h=>c h.symm
    simp -implicitDefEqProofs [e,c,c']
    exact⟨k-1,by omega,7,by omega,by simpa using hx,by simp;rfl⟩
  ·simp -implicitDefEqProofs
   refine Aa (hE 8) ?_
   have e:ALe 8=Ww [116,105,99,107]:=rfl
   by_cases c:w=[116,105,99,107]
   ·by_cases l1:n.length=1
    ·have hev:=AMK (n:=n) (show kindOf w=8 by rw[c];decide) (by omega) (by rw[l1];decide) (by rw[c];decide) (by rw[c];decide)
     obtain⟨x,rfl⟩:=AJN l1
     simp -implicitDefEqProofs [e,c]at hev⊢
     simp -implicitDefEqProofs [hev,BJ,AsO,ints]
    ·have l1':¬(n.length:Int)=1:=by omega
     have hx:=AC1 hnm (.inr (by rw[show kindOf w=8 by rw[c];decide];unfold Aww;simp[l1]))
     simp -implicitDefEqProofs [e,c,l1,l1']
     exact⟨k-1,by omega,8,by omega,by simpa[c]using hx,by simp;rfl⟩
   ·have hx:=AC1 hnm (.inl (by
     intro h
     have h2:=(AKd (w:=w) (k:=8) (by omega) (by omega) (by omega)).2 (by simpa using h)
     rw[e,AK6]at h2
     exact c h2.symm))
    have c':¬([116,105,99,107]=w):=fun h=>c h.symm
    simp -implicitDefEqProofs [e,c,c']
    exact⟨k-1,by omega,8,by omega,by simpa using hx,by simp;rfl⟩
 ·obtain rfl:j=8:=by omega
  have hk0:¬(0<kindOf w/\Aww (kindOf w) n.length=true):=fun h=>hnm ⟨h.1,by omega,h.2⟩
  by_cases l2:n.length=2
  ·obtain⟨a,b,rfl⟩:=ALh l2
   by_cases c1:w=[108,105,109,105,116]
   ·have he:=AKf (a:=a) (b:=b) c1
    simp -implicitDefEqProofs [c1]at he⊢
    simp -implicitDefEqProofs [he,BJ,ints]
   ·by_cases c2:w=[115,116,114,105,112]
    ·have he:=AKn (a:=a) (b:=b) c2
     simp -implicitDefEqProofs [c2]at he⊢
     simp -implicitDefEqProofs [he,BJ,ints]
    ·have he:=AC3 (w:=w) (n:=[a,b]) (by simp[c1]) (by simp[c2])
     rw[if_neg hk0]at he
     simp -implicitDefEqProofs [c1,c2,he,BJ,AsO,ints]
  ·have l2':¬(n.length:Int)=2:=by omega
   have he:=AC3 (w:=w) (n:=n) (by simp[l2]) (by simp[l2])
   rw[if_neg hk0]at he
   by_cases c1:w=[108,105,109,105,116]<;>by_cases c2:w=[115,116,114,105,112]
   all_goals simp -implicitDefEqProofs [c1,c2,l2,l2']at he⊢
   all_goals simp -implicitDefEqProofs [he,BJ,AsO,ints]
abbrev AIM (R:Rel):Prop:=∀b:Bool,R [B b] [] (Sb (if b=true then [111,107]else [110,111])) []
theorem AK2:AIM (Body D AzT):=by
 intro b
 cases b<;>simp -implicitDefEqProofs
abbrev OrS (R:Rel):Prop:=∀a b:List UInt8,R [Sb a,Sb b] [] (Sb (if a=[]then b else a)) []
theorem APF:OrS (Body D AMz):=by
 intro a b
 by_cases h:a=[]
 all_goals simp -implicitDefEqProofs [h]
end Go.Eng.T
namespace Go.Eng.T
open Go.Lib
set_option maxRecDepth 20000
set_option maxHeartbeats 1000000
theorem ifS {α:Type} {a:Nat} {c d:α} (h:a<=1099511627776):(if a<=1099511627776 then c else d)=c:=if_pos h
theorem ifL {α:Type} {a:Nat} {c d:α} (h:a<1099511627776):(if a<1099511627776 then c else d)=c:=if_pos h
def fmtList (xs:List Int):List UInt8:=if xs=[]then [45]else Hf xs [32]
theorem M0 {xs:List Int} (hr:DK xs):(fmtList xs).length<=21*xs.length+1:=by
 unfold fmtList
 split
 ·simp
 ·have:=F9 (sep:=[32]) hr (by simp);omega
variable (R:Rel)
abbrev Kb:Prop:=∀xs:List Int,xs.length<=4194304->DK xs->R [.sl 1 1 xs.length (ints xs)] [] (Sb (fmtList xs)) []
variable (D:Dn)
theorem ANX (hJ:MJ (D 154)):Kb (Body D ALd):=by
 intro xs hl hr
 by_cases h0:xs=[]
 ·subst h0;simp -implicitDefEqProofs [fmtList]
 ·have h0':¬(xs.length:Int)=0:=by have:=List.length_pos_iff.2 h0;omega
  simp -implicitDefEqProofs [h0,h0',fmtList]
  refine Aa (hJ xs [32] hl hr (by simp)) ?_
  simp -implicitDefEqProofs
theorem Acs (hJ:MJ (D 187)):Kb (Body D Jz):=by
 intro xs hl hr
 by_cases h0:xs=[]
 ·subst h0;simp -implicitDefEqProofs [fmtList]
 ·have h0':¬(xs.length:Int)=0:=by have:=List.length_pos_iff.2 h0;omega
  simp -implicitDefEqProofs [h0,h0',fmtList]
  refine Aa (hJ xs [32] hl hr (by simp)) ?_
  simp -implicitDefEqProofs
def GH (d:Aaf):List UInt8:=if d.ok=true then [118]++itoa d.version++(if d.tags=[]then []else [58]++Hf d.tags [44])else [110,111]
theorem X9 {d:Aaf} (hv:Py d.version) (hr:DK d.tags):(GH d).length<=21*d.tags.length+23:=by
 have h1:=E5 hv
 have h2:=F9 (sep:=[44]) hr (by simp)
 unfold GH
 split
 ·split<;>simp<;>omega
 ·simp
abbrev J5:Prop:=∀d:Aaf,d.tags.length<=4194304->Py d.version->DK d.tags->R [arg (AfJ d)] [] (Sb (GH d)) []
theorem AN8 (hF:EB (D 93)) (hJ:MJ (D 154)):J5 (Body D AKZ):=by
 intro d hl hv hr
 have h1:=E5 hv
 have h2:=F9 (sep:=[44]) hr (by simp)
 by_cases ho:d.ok=true
 rotate_left
 ·simp -implicitDefEqProofs [ho,GH]
 simp -implicitDefEqProofs [ho]
 refine Aa (hF d.version hv) ?_
 by_cases h0:d.tags=[]
 ·simp -implicitDefEqProofs (disch:=first | omega | simp) [ifS,ifL,h0,ho,GH]
 ·have h0':(0:Int)<d.tags.length:=by have:=List.length_pos_iff.2 h0;omega
  have h0'':0<d.tags.length:=List.length_pos_iff.2 h0
  simp -implicitDefEqProofs (disch:=first | omega | simp) [ifS,ifL,h0,h0',h0'',ho,GH]
  refine Aa (hJ d.tags [44] hl hr (by simp)) ?_
  simp -implicitDefEqProofs (disch:=first | omega | simp) [ifS,ifL,h0,h0',ho,GH]
theorem Ac2 (hF:EB (D 120)) (hJ:MJ (D 187)):J5 (Body D Ji):=by
 intro d hl hv hr
 have h1:=E5 hv
 have h2:=F9 (sep:=[44]) hr (by simp)
 by_cases ho:d.ok=true
 rotate_left
 ·simp -implicitDefEqProofs [ho,GH]
 simp -implicitDefEqProofs [ho]
 refine Aa (hF d.version hv) ?_
 by_cases h0:d.tags=[]
 ·simp -implicitDefEqProofs (disch:=first | omega | simp) [ifS,ifL,h0,ho,GH]
 ·have h0':(0:Int)<d.tags.length:=by have:=List.length_pos_iff.2 h0;omega
  have h0'':0<d.tags.length:=List.length_pos_iff.2 h0
  simp -implicitDefEqProofs (disch:=first | omega | simp) [ifS,ifL,h0,h0',h0'',ho,GH]
  refine Aa (hJ d.tags [44] hl hr (by simp)) ?_
  simp -implicitDefEqProofs (disch:=first | omega | simp) [ifS,ifL,h0,h0',ho,GH]
def F8 (d:BP):List UInt8:=GH d.deal++ [47]++itoa d.tries++(if d.up=[]then []else [33]++Hf d.up [44])
abbrev JM:Prop:=∀d:BP,d.deal.tags.length<=4194304->d.up.length<=4194304->Py d.deal.version->DK d.deal.tags->Py d.tries->DK d.up->R [arg (AB d)] [] (Sb (F8 d)) []
theorem ANz (hF:EB (D 93)) (hJ:MJ (D 154)) (hD:J5 (D 153)):JM (Body D AGw):=by
 intro d hl hl2 hv hr hv2 hr2
 have h1:=E5 hv2
 have h2:=F9 (sep:=[44]) hr2 (by simp)
 have h3:=X9 hv hr
 simp -implicitDefEqProofs
 refine Aa (hD d.deal hl hv hr) ?_
 simp -implicitDefEqProofs (disch:=first | omega | simp) [ifS,ifL,F8]
 refine Aa (hF d.tries hv2) ?_
 by_cases h0:d.up=[]
 ·simp -implicitDefEqProofs (disch:=first | omega | simp) [ifS,ifL,h0,F8]
 ·have h0':(0:Int)<d.up.length:=by have:=List.length_pos_iff.2 h0;omega
  have h0'':0<d.up.length:=List.length_pos_iff.2 h0
  simp -implicitDefEqProofs (disch:=first | omega | simp) [ifS,ifL,h0,h0',h0'',F8]
  refine Aa (hJ d.up [44] hl2 hr2 (by simp)) ?_
  simp -implicitDefEqProofs (disch:=first | omega | simp) [ifS,ifL,h0,h0',h0'',F8]
theorem YH (hF:EB (D 120)) (hJ:MJ (D 187)) (hD:J5 (D 192)):JM (Body D HY):=by
 intro d hl hl2 hv hr hv2 hr2
 have h1:=E5 hv2
 have h2:=F9 (sep:=[44]) hr2 (by simp)
 have h3:=X9 hv hr
 simp -implicitDefEqProofs
 refine Aa (hD d.deal hl hv hr) ?_
 simp -implicitDefEqProofs (disch:=first | omega | simp) [ifS,ifL,F8]
 refine Aa (hF d.tries hv2) ?_
 by_cases h0:d.up=[]
 ·simp -implicitDefEqProofs (disch:=first | omega | simp) [ifS,ifL,h0,F8]
 ·have h0':(0:Int)<d.up.length:=by have:=List.length_pos_iff.2 h0;omega
  have h0'':0<d.up.length:=List.length_pos_iff.2 h0
  simp -implicitDefEqProofs (disch:=first | omega | simp) [ifS,ifL,h0,h0',h0'',F8]
  refine Aa (hJ d.up [44] hl2 hr2 (by simp)) ?_
  simp -implicitDefEqProofs (disch:=first | omega | simp) [ifS,ifL,h0,h0',h0'',F8]
def FD (r:AX):List UInt8:=[118]++itoa r.version++ [32]++Hf r.stages [44]++(if r.off=true then [111,102,102]else [64]++itoa r.pos)
theorem QZ {r:AX} (hv:Py r.version) (hr:DK r.stages) (hp:Py r.pos):(FD r).length<=21*r.stages.length+50:=by
 have h1:=E5 hv
 have h2:=F9 (sep:=[44]) hr (by simp)
 have h3:=E5 hp
 unfold FD
 split<;>simp<;>omega
abbrev Gy:Prop:=∀r:AX,r.stages.length<=4194304->Py r.version->DK r.stages->Py r.pos->R [arg (Dj r)] [] (Sb (FD r)) []
theorem ANa (hF:EB (D 93)) (hJ:MJ (D 154)):Gy (Body D AFv):=by
 intro r hl hv hr hp
 have h1:=E5 hv
 have h2:=F9 (sep:=[44]) hr (by simp)
 have h3:=E5 hp
 simp -implicitDefEqProofs
 refine Aa (hF r.version hv) ?_
 simp -implicitDefEqProofs (disch:=first | omega | simp) [ifS,ifL,FD]
 refine Aa (hJ r.stages [44] hl hr (by simp)) ?_
 by_cases ho:r.off=true
 ·simp -implicitDefEqProofs (disch:=first | omega | simp) [ifS,ifL,ho,FD]
 ·simp -implicitDefEqProofs (disch:=first | omega | simp) [ifS,ifL,ho,FD]
  refine Aa (hF r.pos hp) ?_
  simp -implicitDefEqProofs (disch:=first | omega | simp) [ifS,ifL,ho,FD]
theorem WS (hF:EB (D 120)) (hJ:MJ (D 187)):Gy (Body D GY):=by
 intro r hl hv hr hp
 have h1:=E5 hv
 have h2:=F9 (sep:=[44]) hr (by simp)
 have h3:=E5 hp
 simp -implicitDefEqProofs
 refine Aa (hF r.version hv) ?_
 simp -implicitDefEqProofs (disch:=first | omega | simp) [ifS,ifL,FD]
 refine Aa (hJ r.stages [44] hl hr (by simp)) ?_
 by_cases ho:r.off=true
 ·simp -implicitDefEqProofs (disch:=first | omega | simp) [ifS,ifL,ho,FD]
 ·simp -implicitDefEqProofs (disch:=first | omega | simp) [ifS,ifL,ho,FD]
  refine Aa (hF r.pos hp) ?_
  simp -implicitDefEqProofs (disch:=first | omega | simp) [ifS,ifL,ho,FD]
def OI (e:Ai):List UInt8:=fmtList e.versions++ [124]++fmtList e.tags++ [124]++itoa (e.path.length:Int)
abbrev Pm:Prop:=∀e:Ai,e.versions.length<=4194304->DK e.versions->e.tags.length<=4194304->DK e.tags->e.path.length<=4194304->R [arg (Ah e)] [] (Sb (OI e)) []
theorem AOp (hF:EB (D 93)) (hL:Kb (D 85)):Pm (Body D ALF):=by
 intro e hl1 hr1 hl2 hr2 hp
 have hn:Py (e.path.length:Int):=by unfold Py;omega
 have h1:=M0 hr1
 have h2:=M0 hr2
 have h3:=E5 hn
 simp -implicitDefEqProofs
 refine Aa (hL e.versions hl1 hr1) ?_
 simp -implicitDefEqProofs (disch:=first | omega | simp) [ifS,ifL,OI]
 refine Aa (hL e.tags hl2 hr2) ?_
 simp -implicitDefEqProofs (disch:=first | omega | simp) [ifS,ifL,OI]
 refine Aa (hF (e.path.length:Int) hn) ?_
 simp -implicitDefEqProofs (disch:=first | omega | simp) [ifS,ifL,OI]
theorem AeL (hF:EB (D 120)) (hL:Kb (D 122)):Pm (Body D KQ):=by
 intro e hl1 hr1 hl2 hr2 hp
 have hn:Py (e.path.length:Int):=by unfold Py;omega
 have h1:=M0 hr1
 have h2:=M0 hr2
 have h3:=E5 hn
 simp -implicitDefEqProofs
 refine Aa (hL e.versions hl1 hr1) ?_
 simp -implicitDefEqProofs (disch:=first | omega | simp) [ifS,ifL,OI]
 refine Aa (hL e.tags hl2 hr2) ?_
 simp -implicitDefEqProofs (disch:=first | omega | simp) [ifS,ifL,OI]
 refine Aa (hF (e.path.length:Int) hn) ?_
 simp -implicitDefEqProofs (disch:=first | omega | simp) [ifS,ifL,OI]
end Go.Eng.T
