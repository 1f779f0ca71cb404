/- Own work: part 13 of the proof of FnExactRunConsole. -/
import Derived.Test.YtogmkdgkgfhhoaaGreatDoorDP11
import Derived.Test.YtogmkdgkgfhhoaaGreatDoorDP12
set_option linter.unusedSimpArgs false
set_option linter.unusedVariables false
namespace Go.Eng.T
open Go.Lib
set_option maxRecDepth 20000
set_option maxHeartbeats 4000000
@[simp] theorem ADW (xs:List (List UInt8)) (j:Nat):(strs xs)[j]? =(xs[j]?).map fun x=>Sb x:=by simp[strs]
@[simp] theorem ALk (xs:List (List UInt8)) (j:Nat) (h:j<(strs xs).length):(strs xs)[j]=Sb (xs[j]'(by simpa using h)):=by simp[strs]
def Au2 (ws:List (List UInt8)):Bool:=ws.all AsY
def numsOf (ws:List (List UInt8)):List Int:=ws.map Ave
theorem ADn (ws:List (List UInt8)):(numsOf ws).length=ws.length:=by simp[numsOf]
theorem AKJ (ws:List (List UInt8)):DK (numsOf ws):=by
 intro x hx
 obtain⟨w,_,rfl⟩:=List.mem_map.1 hx
 exact(AIV w).1
def ALs (ws:List (List UInt8)):Prop:=ws.length<=4194304/\∀w,w∈ws->w.length<=4194304
abbrev AIO (f:List (List UInt8)->List Int) (R:Rel):Prop:=∀ws,ALs ws->R [.sl 1 1 ws.length (strs ws)] [] (.tup [.sl 0 1 (f ws).length (ints (f ws)),B (Au2 ws)]) []
def ANU (ws:List (List UInt8)):List Int:=(ws.takeWhile AsY).map Ave
def ADv (ws:List (List UInt8)):List Int:=if Au2 ws=true then ws.map Ave else []
theorem AO0:∀ {ws:List (List UInt8)},Au2 ws=true->ws.takeWhile AsY=ws
 | [],_=>rfl
 | w::r,h=>by
  simp only[Au2,List.all_cons,Bool.and_eq_true]at h
  rw[List.takeWhile_cons,if_pos h.1,AO0 (ws:=r) h.2]
theorem APx {ws:List (List UInt8)} (h:Au2 ws=true):ANU ws=numsOf ws:=by unfold ANU numsOf;rw[AO0 h]
theorem AJ7 {ws:List (List UInt8)} (h:Au2 ws=true):ADv ws=numsOf ws:=by unfold ADv numsOf;rw[if_pos h]
theorem APK:∀ {ws:List (List UInt8)} {j:Nat} (h:j<ws.length),(ws.take j).all AsY=true->AsY ws[j]=false->ws.takeWhile AsY=ws.take j
 | [],j,h,_,_=>by simp at h
 | w::r,0,_,_,h=>by
  have h:AsY w=false:=h
  rw[List.takeWhile_cons,h];simp
 | w::r,j+1,hj,ha,h=>by
  simp only[List.take_succ_cons,List.all_cons,Bool.and_eq_true]at ha
  rw[List.takeWhile_cons,if_pos ha.1,APK (ws:=r) (j:=j) (by simpa using hj) ha.2 (by simpa using h),List.take_succ_cons]
theorem AKy {ws:List (List UInt8)} {j:Nat} (h:j<ws.length) (hn:AsY ws[j]=false):Au2 ws=false:=by
 unfold Au2
 rw[List.all_eq_false]
 exact⟨ws[j],List.getElem_mem h,by simp[hn]⟩
theorem AJo {ws:List (List UInt8)} {j:Nat} (h:j<ws.length):(ws.take (j+1)).all AsY=((ws.take j).all AsY&&AsY ws[j]):=by
 rw[<-List.take_append_getElem h,List.all_append];simp
theorem AKN {ws:List (List UInt8)} {j:Nat} (h:j<ws.length):(ws.map Ave).take (j+1)=(ws.map Ave).take j++ [Ave ws[j]]:=by
 rw[<-List.map_take,<-List.map_take,<-List.take_append_getElem h,List.map_append];rfl
variable (D:Dn)
theorem APe (hP:ABY (D 68)):AIO ANU (Body D AMe):=by
 intro ws ⟨hl,hw1⟩
 simp -implicitDefEqProofs
 refine Ag (fun k s=>∃j o0 o1 o2,j+k=ws.length/\(ws.take j).all AsY=true/\s=⟨[.sl 1 1 ws.length (strs ws),.undef,.undef,.arr 3,I j,.undef,.undef,.undef,.undef],[o0,o1,o2,.arr 1 0 j (ints ((ws.map Ave).take j))]⟩) ?_ (ws.length) _ ⟨0,.free,.free,.free,by simp,by simp,by simp⟩
 intro k s ⟨j,o0,o1,o2,hj,ha,hs⟩
 subst hs
 by_cases hjn:j<ws.length
 ·have hw:=Cv (j:=j) (by omega)
  have hst:=AJo hjn
  have hps:=AKN hjn
  have hjl:min j ws.length=j:=by omega
  have b1:(j+1)*8<=1099511627776:=by omega
  simp -implicitDefEqProofs [hjn]
  refine Aa (hP ws[j] (hw1 _ (List.getElem_mem hjn))) ?_
  by_cases hn:AsY ws[j]=true
  ·have ha2:(ws.take (j+1)).all AsY=true:=by rw[hst,ha,hn];rfl
   simp -implicitDefEqProofs [hn,b1,hw,hjl]
   exact⟨k-1,by omega,j+1,by omega,by simpa using ha2,by rw[hps];simp⟩
  ·have hn':AsY ws[j]=false:=by simpa using hn
   have e:=APK hjn ha hn'
   have e2:=AKy hjn hn'
   simp -implicitDefEqProofs [hn',e2,ANU,e,hjl]
 ·obtain rfl:j=ws.length:=by omega
  have e2:Au2 ws=true:=by unfold Au2;rw[List.take_length]at ha;exact ha
  have e3:(ws.map Ave).take ws.length=ws.map Ave:=List.take_of_length_le (by simp)
  simp -implicitDefEqProofs [e2,ANU,AO0 e2,e3]
theorem AGz (hP:ABY (D 104)):AIO ADv (Body D AvK):=by
 intro ws ⟨hl,hw1⟩
 simp -implicitDefEqProofs
 refine Ag (fun k s=>∃j o0 o1 o2,j+k=ws.length/\(ws.take j).all AsY=true/\s=⟨[.undef,.undef,.undef,.arr 3,.undef,.undef,.undef,.sl 1 1 ws.length (strs ws),I ws.length,I j,.undef,.undef],[o0,o1,o2,.arr 1 0 j (ints ((ws.map Ave).take j))]⟩) ?_ (ws.length) _ ⟨0,.free,.free,.free,by simp,by simp,by simp⟩
 intro k s ⟨j,o0,o1,o2,hj,ha,hs⟩
 subst hs
 by_cases hjn:j<ws.length
 ·have hw:=Cv (j:=j) (by omega)
  have hst:=AJo hjn
  have hps:=AKN hjn
  have hjl:min j ws.length=j:=by omega
  have b1:(j+1)*8<=1099511627776:=by omega
  simp -implicitDefEqProofs [hjn]
  refine Aa (hP ws[j] (hw1 _ (List.getElem_mem hjn))) ?_
  by_cases hn:AsY ws[j]=true
  ·have ha2:(ws.take (j+1)).all AsY=true:=by rw[hst,ha,hn];rfl
   simp -implicitDefEqProofs [hn,b1,hw,hjl]
   exact⟨k-1,by omega,j+1,by omega,by simpa using ha2,by rw[hps];simp⟩
  ·have hn':AsY ws[j]=false:=by simpa using hn
   have e2:=AKy hjn hn'
   simp -implicitDefEqProofs [hn',e2,ADv]
 ·obtain rfl:j=ws.length:=by omega
  have e2:Au2 ws=true:=by unfold Au2;rw[List.take_length]at ha;exact ha
  have e3:(ws.map Ave).take ws.length=ws.map Ave:=List.take_of_length_le (by simp)
  simp -implicitDefEqProofs [e2,ADv,e3]
def ACW:List (List UInt8)->List UInt8->Nat->Int
 | [],_,_=> -1
 | x::r,v,j=>if v=x then(j:Int)else ACW r v (j+1)
theorem AKO {xs:List (List UInt8)} {j:Nat} (h:j<xs.length) (v:List UInt8):ACW (xs.drop j) v j=if v=xs[j]then(j:Int)else ACW (xs.drop (j+1)) v (j+1):=by
 rw[List.drop_eq_getElem_cons h,ACW]
variable (R:Rel)
abbrev AC6:Prop:=∀(xs:List (List UInt8)) (v:List UInt8),xs.length<=4194304->R [.sl 1 1 xs.length (strs xs),Sb v] [] (I (ACW xs v 0)) []
theorem AIv:AC6 (Body D AqZ):=by
 intro xs v hl
 simp -implicitDefEqProofs
 refine Ag (fun k s=>∃j,j+k=xs.length/\ACW (xs.drop j) v j=ACW xs v 0/\s=⟨[.sl 1 1 xs.length (strs xs),Sb v,.undef,.undef,I xs.length,I j,.undef,.undef],[]⟩) ?_ (xs.length) _ ⟨0,by simp,by simp,by simp⟩
 intro k s ⟨j,hj,hi,hs⟩
 subst hs
 by_cases hjn:j<xs.length
 ·have hw:=Cv (j:=j) (by omega)
  have hat:=AKO hjn v
  by_cases he:v=xs[j]
  ·rw[if_pos he,hi]at hat
   simp -implicitDefEqProofs [hjn,<-he,hat]
  ·rw[if_neg he,hi]at hat
   simp -implicitDefEqProofs [hjn,he,hw]
   exact⟨k-1,by omega,j+1,by omega,hat.symm,by simp⟩
 ·have hx:ACW xs v 0= -1:=by rw[<-hi,List.drop_of_length_le (by omega)];rfl
  simp -implicitDefEqProofs [hjn,hx]
def AsO:EG:=⟨0,[],[],false⟩
def kindOf (w:List UInt8):Int:=
 if w=[100,105,97,108]then 1 else if w=[115,116,97,114,116]then 2 else if w=[115,116,97,103,101]then 3 else if w=[114,101,116,105,114,101]then 4
 else if w=[114,101,118,105,118,101]then 5 else if w=[99,108,101,97,114]then 7 else if w=[116,105,99,107]then 8 else 0
def Aww (k:Int) (n:Nat):Bool:=(decide (k=2∨k=3)&&decide (n=0))||(!decide (k=2∨k=3)&&decide (n=1))
def Ark (w:List UInt8) (n:List Int):Event:=
 if w=[108,105,109,105,116]/\n.length=2 then⟨6,n.getD 0 0,⟨n.getD 1 0,[],[],false⟩⟩
 else if w=[115,116,114,105,112]/\n.length=2 then⟨6,n.getD 0 0,⟨0,[],[n.getD 1 0],false⟩⟩
 else if 0<kindOf w/\Aww (kindOf w) n.length=true then⟨kindOf w,n.getD 0 0,AsO⟩else⟨0,0,AsO⟩
theorem AIT (w:List UInt8):0<=kindOf w/\kindOf w<=8/\kindOf w≠6:=by
 unfold kindOf
 repeat' split
 all_goals omega
theorem APg {w:List UInt8} {k:Int} (h1:1<=k) (h2:k<=8) (h6:k≠6):(ALe k=Ww w)↔kindOf w=k:=by
 have key:∀l:List UInt8,(Ww l=Ww w)↔w=l:=fun l=>⟨fun h=>by have:=congrArg ByteArray.toList h;simpa using this.symm,fun h=>by rw[h]⟩
 have hk:k=1∨k=2∨k=3∨k=4∨k=5∨k=7∨k=8:=by omega
 rcases hk with rfl | rfl | rfl | rfl | rfl | rfl | rfl
 all_goals
  show(Ww _=Ww w)↔_
  rw[key]
  unfold kindOf
  constructor
  ·intro h;subst h;decide
  ·intro h;repeat' split at h
   all_goals first | assumption | omega
abbrev AMS:Prop:=∀(w:List UInt8) (n:List Int),n.length<=4194304->R [Sb w,.sl 1 1 n.length (ints n)] [] (.agg (BJ (Ark w n))) []
abbrev AyW:Prop:=∀(w:List UInt8) (n:List Int),n.length<=4194304->w≠ []->R [Sb w,.sl 1 1 n.length (ints n)] [] (.tup [.agg (BJ (Ark w n)),B (decide (0<(Ark w n).kind))]) []
theorem ALh {n:List Int} (h:n.length=2):∃a b,n=[a,b]:=by
 match n,h with
 | [a,b],_=>exact⟨a,b,rfl⟩
theorem AJN {n:List Int} (h:n.length=1):∃a,n=[a]:=by
 match n,h with
 | [a],_=>exact⟨a,rfl⟩
def names8:List (List UInt8):=[[100,105,97,108],[115,116,97,114,116],[115,116,97,103,101],[114,101,116,105,114,101],[114,101,118,105,118,101],[],[99,108,101,97,114],[116,105,99,107]]
theorem AJ2 {w:List UInt8} (h:w≠ []):ACW names8 w 0+1=kindOf w:=by
 unfold names8 kindOf
 simp only[ACW]
 rw[if_neg h]
 repeat' split
 all_goals rfl
theorem AKf {w:List UInt8} {a b:Int} (h:w=[108,105,109,105,116]):Ark w [a,b]=⟨6,a,⟨b,[],[],false⟩⟩:=by subst h;rfl
theorem AKn {w:List UInt8} {a b:Int} (h:w=[115,116,114,105,112]):Ark w [a,b]=⟨6,a,⟨0,[],[b],false⟩⟩:=by subst h;rfl
theorem AC3 {w:List UInt8} {n:List Int} (h1:¬(w=[108,105,109,105,116]/\n.length=2)) (h2:¬(w=[115,116,114,105,112]/\n.length=2)):
 Ark w n=if 0<kindOf w/\Aww (kindOf w) n.length=true then⟨kindOf w,n.getD 0 0,AsO⟩else⟨0,0,AsO⟩:=by
 unfold Ark;rw[if_neg h1,if_neg h2]
theorem AJj (hI:AC6 (D 105)):AyW (Body D AwS):=by
 intro w n hn hw0
 have hidx:=hI names8 w (by decide)
 have hx:=AJ2 hw0
 have hkr:=AIT w
 have hwk:IntKind.i64.wrap (ACW names8 w 0+1)=kindOf w:=by rw[hx,Ad (by omega) (by omega)]
 generalize ACW names8 w 0=i at hidx hwk
 simp -implicitDefEqProofs
 refine Aa (show _ from hidx) ?_
 clear hidx hx
 by_cases l2:n.length=2
 ·obtain⟨a,b,rfl⟩:=ALh l2
  by_cases c1:w=[108,105,109,105,116]
  ·have he:=AKf (a:=a) (b:=b) c1
   simp -implicitDefEqProofs [hwk,c1]at he⊢
   simp -implicitDefEqProofs [he,BJ]
  ·by_cases c2:w=[115,116,114,105,112]
   ·have he:=AKn (a:=a) (b:=b) c2
    simp -implicitDefEqProofs [hwk,c2]at he⊢
    simp -implicitDefEqProofs [he,BJ,ints]
   ·have he:=AC3 (w:=w) (n:=[a,b]) (by simp[c1]) (by simp[c2])
    rw[he]
    clear he
    generalize kindOf w=kk at hkr hwk
    by_cases k2:kk=2
    ·subst k2
     simp -implicitDefEqProofs [hwk,c1,c2,Aww,BJ,AsO,ints]
    by_cases k3:kk=3
    ·subst k3
     simp -implicitDefEqProofs [hwk,c1,c2,Aww,BJ,AsO,ints]
    by_cases kp:0<kk
    all_goals simp -implicitDefEqProofs [hwk,c1,c2,k2,k3,kp,Aww,BJ,AsO,ints]
 ·have l2':¬(n.length:Int)=2:=by omega
  have he:=AC3 (w:=w) (n:=n) (by simp[l2]) (by simp[l2])
  rw[he]
  clear he
  generalize kindOf w=kk at hkr hwk
  by_cases l0:n.length=0
  ·obtain rfl:n=[]:=List.eq_nil_of_length_eq_zero l0
   by_cases k2:kk=2
   ·subst k2
    by_cases c1:w=[108,105,109,105,116]<;>by_cases c2:w=[115,116,114,105,112]
    all_goals simp -implicitDefEqProofs [hwk,c1,c2,Aww,BJ,AsO,ints,l0]
   by_cases k3:kk=3
   ·subst k3
    by_cases c1:w=[108,105,109,105,116]<;>by_cases c2:w=[115,116,114,105,112]
    all_goals simp -implicitDefEqProofs [hwk,c1,c2,Aww,BJ,AsO,ints,l0]
   by_cases kp:0<kk<;>by_cases c1:w=[108,105,109,105,116]<;>by_cases c2:w=[115,116,114,105,112]
   all_goals simp -implicitDefEqProofs [hwk,c1,c2,k2,k3,kp,Aww,BJ,AsO,ints,l0]
  ·have l0':¬(n.length:Int)=0:=by omega
   by_cases l1:n.length=1
   ·obtain⟨a,rfl⟩:=AJN l1
    by_cases k2:kk=2
    ·subst k2
     by_cases c1:w=[108,105,109,105,116]<;>by_cases c2:w=[115,116,114,105,112]
     all_goals simp -implicitDefEqProofs [hwk,c1,c2,Aww,BJ,AsO,ints,l1]
    by_cases k3:kk=3
    ·subst k3
     by_cases c1:w=[108,105,109,105,116]<;>by_cases c2:w=[115,116,114,105,112]
     all_goals simp -implicitDefEqProofs [hwk,c1,c2,Aww,BJ,AsO,ints,l1]
    by_cases kp:0<kk<;>by_cases c1:w=[108,105,109,105,116]<;>by_cases c2:w=[115,116,114,105,112]
    all_goals simp -implicitDefEqProofs [hwk,c1,c2,k2,k3,kp,Aww,BJ,AsO,ints,l1]
   ·have l1':¬(n.length:Int)=1:=by omega
    by_cases k2:kk=2
    ·subst k2
     by_cases c1:w=[108,105,109,105,116]<;>by_cases c2:w=[115,116,114,105,112]
     all_goals simp -implicitDefEqProofs [hwk,c1,c2,Aww,BJ,AsO,ints,l0,l1,l2,l0',l1',l2']
    by_cases k3:kk=3
    ·subst k3
     by_cases c1:w=[108,105,109,105,116]<;>by_cases c2:w=[115,116,114,105,112]
     all_goals simp -implicitDefEqProofs [hwk,c1,c2,Aww,BJ,AsO,ints,l0,l1,l2,l0',l1',l2']
    by_cases kp:0<kk<;>by_cases c1:w=[108,105,109,105,116]<;>by_cases c2:w=[115,116,114,105,112]
    all_goals simp -implicitDefEqProofs [hwk,c1,c2,k2,k3,kp,Aww,BJ,AsO,ints,l0,l1,l2,l0',l1',l2']
end Go.Eng.T
namespace Go.Eng.T
open Go.Lib
set_option maxRecDepth 20000
set_option maxHeartbeats 4000000
theorem AKd {w:List UInt8} {k:Int} (h1:1<=k) (h2:k<=8) (h6:k≠6):((ALe k).toList=w)↔kindOf w=k:=by
 rw[<-APg h1 h2 h6]
 have hk:k=1∨k=2∨k=3∨k=4∨k=5∨k=7∨k=8:=by omega
 rcases hk with rfl | rfl | rfl | rfl | rfl | rfl | rfl
 all_goals
  show((Ww _).toList=w)↔(Ww _=Ww w)
  rw[AK6]
  exact⟨fun h=>by rw[h],fun h=>by have:=congrArg ByteArray.toList h;simpa using this⟩
theorem AMK {w:List UInt8} {n:List Int} {k:Int} (hk:kindOf w=k) (hp:0<k) (hg:Aww k n.length=true) (h1:w≠ [108,105,109,105,116]) (h2:w≠ [115,116,114,105,112]):
 Ark w n=⟨k,n.getD 0 0,AsO⟩:=by
 rw[AC3 (fun h=>h1 h.1) (fun h=>h2 h.1),hk,if_pos ⟨hp,hg⟩]
theorem AC1 {w:List UInt8} {n:List Int} {j:Nat} (hnm:¬(0<kindOf w/\kindOf w<=j/\Aww (kindOf w) n.length=true)) (h:kindOf w≠(j:Int)+1∨Aww (kindOf w) n.length=false):
 ¬(0<kindOf w/\kindOf w<=(j+1:Nat)/\Aww (kindOf w) n.length=true):=by
 rintro ⟨a,b,c⟩
 rcases h with h | h
 ·exact hnm ⟨a,by omega,c⟩
 ·rw[h]at c;cases c
variable (D:Dn)
theorem AOY (hE:AMm (D 73)):AMS (Body D AL4):=by
 intro w n hn
 have hkr:=AIT w
 simp -implicitDefEqProofs
 refine Ag (fun k s=>∃j v4,j+k=8/\¬(0<kindOf w/\kindOf w<=j/\Aww (kindOf w) n.length=true)/\s=⟨[Sb w,.sl 1 1 n.length (ints n),.ptr 0 0,I (j+1),v4,.undef,.undef,.undef,.undef,.undef,.undef],[.var [I 0,I 0,I 0,.nil 1,.nil 1,B false],.free]⟩) ?_ (8) _ ⟨0,.undef,by simp,by omega,by simp⟩
 intro k s ⟨j,v4,hj,hnm,hs⟩
 subst hs
 by_cases hj8:j<8
 ·have hjs:j=0∨j=1∨j=2∨j=3∨j=4∨j=5∨j=6∨j=7:=by omega
  rcases hjs with rfl | rfl | rfl | rfl | rfl | rfl | rfl | rfl
  ·simp -implicitDefEqProofs
   refine Aa (hE 1) ?_
   have e:ALe 1=Ww [100,105,97,108]:=rfl
   by_cases c:w=[100,105,97,108]
   ·by_cases l1:n.length=1
    ·have hev:=AMK (n:=n) (show kindOf w=1 by rw[c];decide) (by omega) (by rw[l1];decide) (by rw[c];decide) (by rw[c];decide)
     obtain⟨x,rfl⟩:=AJN l1
     simp -implicitDefEqProofs [e,c]at hev⊢
     simp -implicitDefEqProofs [hev,BJ,AsO,ints]
    ·have l1':¬(n.length:Int)=1:=by omega
     have hx:=AC1 hnm (.inr (by rw[show kindOf w=1 by rw[c];decide];unfold Aww;simp[l1]))
     simp -implicitDefEqProofs [e,c,l1,l1']
     exact⟨k-1,by omega,1,by omega,by simpa[c]using hx,by simp;rfl⟩
   ·have hx:=AC1 hnm (.inl (by
     intro h
     have h2:=(AKd (w:=w) (k:=1) (by omega) (by omega) (by omega)).2 (by simpa using h)
     rw[e,AK6]at h2
     exact c h2.symm))
    have c':¬([100,105,97,108]=w):=fun h=>c h.symm
    simp -implicitDefEqProofs [e,c,c']
    exact⟨k-1,by omega,1,by omega,by simpa using hx,by simp;rfl⟩
  ·simp -implicitDefEqProofs
   refine Aa (hE 2) ?_
   have e:ALe 2=Ww [115,116,97,114,116]:=rfl
   by_cases c:w=[115,116,97,114,116]
   ·by_cases l0:n.length=0
    ·have hev:=AMK (n:=n) (show kindOf w=2 by rw[c];decide) (by omega) (by rw[l0];decide) (by rw[c];decide) (by rw[c];decide)
     obtain rfl:n=[]:=List.eq_nil_of_length_eq_zero l0
     simp -implicitDefEqProofs [e,c]at hev⊢
     simp -implicitDefEqProofs [hev,BJ,AsO,ints]
    ·have l0':¬(n.length:Int)=0:=by omega
     have hx:=AC1 hnm (.inr (by rw[show kindOf w=2 by rw[c];decide];unfold Aww;simp[l0]))
     simp -implicitDefEqProofs [e,c,l0,l0']
     exact⟨k-1,by omega,2,by omega,by simpa[c]using hx,by simp;rfl⟩
   ·have hx:=AC1 hnm (.inl (by
     intro h
     have h2:=(AKd (w:=w) (k:=2) (by omega) (by omega) (by omega)).2 (by simpa using h)
     rw[e,AK6]at h2
     exact c h2.symm))
    have c':¬([115,116,97,114,116]=w):=fun h=>c h.symm
    simp -implicitDefEqProofs [e,c,c']
    exact⟨k-1,by omega,2,by omega,by simpa using hx,by simp;rfl⟩
  ·simp -implicitDefEqProofs
   refine Aa (hE 3) ?_
   have e:ALe 3=Ww [115,116,97,103,101]:=rfl
   by_cases c:w=[115,116,97,103,101]
   ·by_cases l0:n.length=0
    ·have hev:=AMK (n:=n) (show kindOf w=3 by rw[c];decide) (by omega) (by rw[l0];decide) (by rw[c];decide) (by rw[c];decide)
     obtain rfl:n=[]:=List.eq_nil_of_length_eq_zero l0
     simp -implicitDefEqProofs [e,c]at hev⊢
     simp -implicitDefEqProofs [hev,BJ,AsO,ints]
    ·have l0':¬(n.length:Int)=0:=by omega
     have hx:=AC1 hnm (.inr (by rw[show kindOf w=3 by rw[c];decide];unfold Aww;simp[l0]))
     simp -implicitDefEqProofs [e,c,l0,l0']
     exact⟨k-1,by omega,3,by omega,by simpa[c]using hx,by simp;rfl⟩
   ·have hx:=AC1 hnm (.inl (by
     intro h
     have h2:=(AKd (w:=w) (k:=3) (by omega) (by omega) (by omega)).2 (by simpa using h)
     rw[e,AK6]at h2
     exact c h2.symm))
    have c':¬([115,116,97,103,101]=w):=fun h=>c h.symm
    simp -implicitDefEqProofs [e,c,c']
    exact⟨k-1,by omega,3,by omega,by simpa using hx,by simp;rfl⟩
  ·simp -implicitDefEqProofs
   refine Aa (hE 4) ?_
   have e:ALe 4=Ww [114,101,116,105,114,101]:=rfl
   by_cases c:w=[114,101,116,105,114,101]
   ·by_cases l1:n.length=1
    ·have hev:=AMK (n:=n) (show kindOf w=4 by rw[c];decide) (by omega) (by rw[l1];decide) (by rw[c];decide) (by rw[c];decide)
     obtain⟨x,rfl⟩:=AJN l1
     simp -implicitDefEqProofs [e,c]at hev⊢
     simp -implicitDefEqProofs [hev,BJ,AsO,ints]
    ·have l1':¬(n.length:Int)=1:=by omega
     have hx:=AC1 hnm (.inr (by rw[show kindOf w=4 by rw[c];decide];unfold Aww;simp[l1]))
     simp -implicitDefEqProofs [e,c,l1,l1']
     exact⟨k-1,by omega,4,by omega,by simpa[c]using hx,by simp;rfl⟩
   ·have hx:=AC1 hnm (.inl (by
     intro h
     have h2:=(AKd (w:=w) (k:=4) (by omega) (by omega) (by omega)).2 (by simpa using h)
     rw[e,AK6]at h2
     exact c h2.symm))
    have c':¬([114,101,116,105,114,101]=w):=fun h=>c h.symm
    simp -implicitDefEqProofs [e,c,c']
    exact⟨k-1,by omega,4,by omega,by simpa using hx,by simp;rfl⟩
  ·simp -implicitDefEqProofs
   refine Aa (hE 5) ?_
   have e:ALe 5=Ww [114,101,118,105,118,101]:=rfl
   by_cases c:w=[114,101,118,105,118,101]
   ·by_cases l1:n.length=1
    ·have hev:=AMK (n:=n) (show kindOf w=5 by rw[c];decide) (by omega) (by rw[l1];decide) (by rw[c];decide) (by rw[c];decide)
     obtain⟨x,rfl⟩:=AJN l1
     simp -implicitDefEqProofs [e,c]at hev⊢
     simp -implicitDefEqProofs [hev,BJ,AsO,ints]
    ·have l1':¬(n.length:Int)=1:=by omega
     have hx:=AC1 hnm (.inr (by rw[show kindOf w=5 by rw[c];decide];unfold Aww;simp[l1]))
     simp -implicitDefEqProofs [e,c,l1,l1']
     exact⟨k-1,by omega,5,by omega,by simpa[c]using hx,by simp;rfl⟩
   ·have hx:=AC1 hnm (.inl (by
     intro h
     have h2:=(AKd (w:=w) (k:=5) (by omega) (by omega) (by omega)).2 (by simpa using h)
     rw[e,AK6]at h2
     exact c h2.symm))
    have c':¬([114,101,118,105,118,101]=w):=fun h=>c h.symm
    simp -implicitDefEqProofs [e,c,c']
    exact⟨k-1,by omega,5,by omega,by simpa using hx,by simp;rfl⟩
  ·simp -implicitDefEqProofs
   refine Aa (hE 6) ?_
   have e:ALe 6=Ww [98,111,120]:=rfl
   have hx:=AC1 hnm (.inl (by simpa using hkr.2.2))
   by_cases c': [98,111,120]=w
   ·simp -implicitDefEqProofs [e,<-c']
    exact⟨k-1,by omega,6,by omega,by simpa[<-c']using hx,by simp;rfl⟩
   ·simp -implicitDefEqProofs [e,c']
    exact⟨k-1,by omega,6,by omega,by simpa using hx,by simp;rfl⟩
  ·simp -implicitDefEqProofs
   refine Aa (hE 7) ?_
   have e:ALe 7=Ww [99,108,101,97,114]:=rfl
   by_cases c:w=[99,108,101,97,114]
   ·by_cases l1:n.length=1
    ·have hev:=AMK (n:=n) (show kindOf w=7 by rw[c];decide) (by omega) (by rw[l1];decide) (by rw[c];decide) (by rw[c];decide)
     obtain⟨x,rfl⟩:=AJN l1
     simp -implicitDefEqProofs [e,c]at hev⊢
     simp -implicitDefEqProofs [hev,BJ,AsO,ints]
    ·have l1':¬(n.length:Int)=1:=by omega
     have hx:=AC1 hnm (.inr (by rw[show kindOf w=7 by rw[c];decide];unfold Aww;simp[l1]))
     simp -implicitDefEqProofs [e,c,l1,l1']
     exact⟨k-1,by omega,7,by omega,by simpa[c]using hx,by simp;rfl⟩
   ·have hx:=AC1 hnm (.inl (by
     intro h
     have h2:=(AKd (w:=w) (k:=7) (by omega) (by omega) (by omega)).2 (by simpa using h)
     rw[e,AK6]at h2
     exact c h2.symm))
    have c':¬([99,108,101,97,114]=w):=fun h=>c h.symm
    simp -implicitDefEqProofs [e,c,c']
    exact⟨k-1,by omega,7,by omega,by simpa using hx,by simp;rfl⟩
  ·simp -implicitDefEqProofs
   refine Aa (hE 8) ?_
   have e:ALe 8=Ww [116,105,99,107]:=rfl
   by_cases c:w=[116,105,99,107]
   ·by_cases l1:n.length=1
    ·have hev:=AMK (n:=n) (show kindOf w=8 by rw[c];decide) (by omega) (by rw[l1];decide) (by rw[c];decide) (by rw[c];decide)
     obtain⟨x,rfl⟩:=AJN l1
     simp -implicitDefEqProofs [e,c]at hev⊢
     simp -implicitDefEqProofs [hev,BJ,AsO,ints]
    ·have l1':¬(n.length:Int)=1:=by omega
     have hx:=AC1 hnm (.inr (by rw[show kindOf w=8 by rw[c];decide];unfold Aww;simp[l1]))
     simp -implicitDefEqProofs [e,c,l1,l1']
     exact⟨k-1,by omega,8,by omega,by simpa[c]using hx,by simp;rfl⟩
   ·have hx:=AC1 hnm (.inl (by
     intro h
     have h2:=(AKd (w:=w) (k:=8) (by omega) (by omega) (by omega)).2 (by simpa using h)
     rw[e,AK6]at h2
     exact c h2.symm))
    have c':¬([116,105,99,107]=w):=fun h=>c h.symm
    simp -implicitDefEqProofs [e,c,c']
    exact⟨k-1,by omega,8,by omega,by simpa using hx,by simp;rfl⟩
 ·obtain rfl:j=8:=by omega
  have hk0:¬(0<kindOf w/\Aww (kindOf w) n.length=true):=fun h=>hnm ⟨h.1,by omega,h.2⟩
  by_cases l2:n.length=2
  ·obtain⟨a,b,rfl⟩:=ALh l2
   by_cases c1:w=[108,105,109,105,116]
   ·have he:=AKf (a:=a) (b:=b) c1
    simp -implicitDefEqProofs [c1]at he⊢
    simp -implicitDefEqProofs [he,BJ,ints]
   ·by_cases c2:w=[115,116,114,105,112]
    ·have he:=AKn (a:=a) (b:=b) c2
     simp -implicitDefEqProofs [c2]at he⊢
     simp -implicitDefEqProofs [he,BJ,ints]
    ·have he:=AC3 (w:=w) (n:=[a,b]) (by simp[c1]) (by simp[c2])
     rw[if_neg hk0]at he
     simp -implicitDefEqProofs [c1,c2,he,BJ,AsO,ints]
  ·have l2':¬(n.length:Int)=2:=by omega
   have he:=AC3 (w:=w) (n:=n) (by simp[l2]) (by simp[l2])
   rw[if_neg hk0]at he
   by_cases c1:w=[108,105,109,105,116]<;>by_cases c2:w=[115,116,114,105,112]
   all_goals simp -implicitDefEqProofs [c1,c2,l2,l2']at he⊢
   all_goals simp -implicitDefEqProofs [he,BJ,AsO,ints]
abbrev AIM (R:Rel):Prop:=∀b:Bool,R [B b] [] (Sb (if b=true then [111,107]else [110,111])) []
theorem AK2:AIM (Body D AzT):=by
 intro b
 cases b<;>simp -implicitDefEqProofs
abbrev OrS (R:Rel):Prop:=∀a b:List UInt8,R [Sb a,Sb b] [] (Sb (if a=[]then b else a)) []
theorem APF:OrS (Body D AMz):=by
 intro a b
 by_cases h:a=[]
 all_goals simp -implicitDefEqProofs [h]
end Go.Eng.T
namespace Go.Eng.T
open Go.Lib
set_option maxRecDepth 20000
set_option maxHeartbeats 1000000
theorem ifS {α:Type} {a:Nat} {c d:α} (h:a<=1099511627776):(if a<=1099511627776 then c else d)=c:=if_pos h
theorem ifL {α:Type} {a:Nat} {c d:α} (h:a<1099511627776):(if a<1099511627776 then c else d)=c:=if_pos h
def fmtList (xs:List Int):List UInt8:=if xs=[]then [45]else Hf xs [32]
theorem M0 {xs:List Int} (hr:DK xs):(fmtList xs).length<=21*xs.length+1:=by
 unfold fmtList
 split
 ·simp
 ·have:=F9 (sep:=[32]) hr (by simp);omega
variable (R:Rel)
abbrev Kb:Prop:=∀xs:List Int,xs.length<=4194304->DK xs->R [.sl 1 1 xs.length (ints xs)] [] (Sb (fmtList xs)) []
variable (D:Dn)
theorem ANX (hJ:MJ (D 154)):Kb (Body D ALd):=by
 intro xs hl hr
 by_cases h0:xs=[]
 ·subst h0;simp -implicitDefEqProofs [fmtList]
 ·have h0':¬(xs.length:Int)=0:=by have:=List.length_pos_iff.2 h0;omega
  simp -implicitDefEqProofs [h0,h0',fmtList]
  refine Aa (hJ xs [32] hl hr (by simp)) ?_
  simp -implicitDefEqProofs
theorem Acs (hJ:MJ (D 187)):Kb (Body D Jz):=by
 intro xs hl hr
 by_cases h0:xs=[]
 ·subst h0;simp -implicitDefEqProofs [fmtList]
 ·have h0':¬(xs.length:Int)=0:=by have:=List.length_pos_iff.2 h0;omega
  simp -implicitDefEqProofs [h0,h0',fmtList]
  refine Aa (hJ xs [32] hl hr (by simp)) ?_
  simp -implicitDefEqProofs
def GH (d:Aaf):List UInt8:=if d.ok=true then [118]++itoa d.version++(if d.tags=[]then []else [58]++Hf d.tags [44])else [110,111]
theorem X9 {d:Aaf} (hv:Py d.version) (hr:DK d.tags):(GH d).length<=21*d.tags.length+23:=by
 have h1:=E5 hv
 have h2:=F9 (sep:=[44]) hr (by simp)
 unfold GH
 split
 ·split<;>simp<;>omega
 ·simp
abbrev J5:Prop:=∀d:Aaf,d.tags.length<=4194304->Py d.version->DK d.tags->R [arg (AfJ d)] [] (Sb (GH d)) []
theorem AN8 (hF:EB (D 93)) (hJ:MJ (D 154)):J5 (Body D AKZ):=by
 intro d hl hv hr
 have h1:=E5 hv
 have h2:=F9 (sep:=[44]) hr (by simp)
 by_cases ho:d.ok=true
 rotate_left
 ·simp -implicitDefEqProofs [ho,GH]
 simp -implicitDefEqProofs [ho]
 refine Aa (hF d.version hv) ?_
 by_cases h0:d.tags=[]
 ·simp -implicitDefEqProofs (disch:=first | omega | simp) [ifS,ifL,h0,ho,GH]
 ·have h0':(0:Int)<d.tags.length:=by have:=List.length_pos_iff.2 h0;omega
  have h0'':0<d.tags.length:=List.length_pos_iff.2 h0
  simp -implicitDefEqProofs (disch:=first | omega | simp) [ifS,ifL,h0,h0',h0'',ho,GH]
  refine Aa (hJ d.tags [44] hl hr (by simp)) ?_
  simp -implicitDefEqProofs (disch:=first | omega | simp) [ifS,ifL,h0,h0',ho,GH]
theorem Ac2 (hF:EB (D 120)) (hJ:MJ (D 187)):J5 (Body D Ji):=by
 intro d hl hv hr
 have h1:=E5 hv
 have h2:=F9 (sep:=[44]) hr (by simp)
 by_cases ho:d.ok=true
 rotate_left
 ·simp -implicitDefEqProofs [ho,GH]
 simp -implicitDefEqProofs [ho]
 refine Aa (hF d.version hv) ?_
 by_cases h0:d.tags=[]
 ·simp -implicitDefEqProofs (disch:=first | omega | simp) [ifS,ifL,h0,ho,GH]
 ·have h0':(0:Int)<d.tags.length:=by have:=List.length_pos_iff.2 h0;omega
  have h0'':0<d.tags.length:=List.length_pos_iff.2 h0
  simp -implicitDefEqProofs (disch:=first | omega | simp) [ifS,ifL,h0,h0',h0'',ho,GH]
  refine Aa (hJ d.tags [44] hl hr (by simp)) ?_
  simp -implicitDefEqProofs (disch:=first | omega | simp) [ifS,ifL,h0,h0',ho,GH]
def F8 (d:BP):List UInt8:=GH d.deal++ [47]++itoa d.tries++(if d.up=[]then []else [33]++Hf d.up [44])
abbrev JM:Prop:=∀d:BP,d.deal.tags.length<=4194304->d.up.length<=4194304->Py d.deal.version->DK d.deal.tags->Py d.tries->DK d.up->R [arg (AB d)] [] (Sb (F8 d)) []
theorem ANz (hF:EB (D 93)) (hJ:MJ (D 154)) (hD:J5 (D 153)):JM (Body D AGw):=by
 intro d hl hl2 hv hr hv2 hr2
 have h1:=E5 hv2
 have h2:=F9 (sep:=[44]) hr2 (by simp)
 have h3:=X9 hv hr
 simp -implicitDefEqProofs
 refine Aa (hD d.deal hl hv hr) ?_
 simp -implicitDefEqProofs (disch:=first | omega | simp) [ifS,ifL,F8]
 refine Aa (hF d.tries hv2) ?_
 by_cases h0:d.up=[]
 ·simp -implicitDefEqProofs (disch:=first | omega | simp) [ifS,ifL,h0,F8]
 ·have h0':(0:Int)<d.up.length:=by have:=List.length_pos_iff.2 h0;omega
  have h0'':0<d.up.length:=List.length_pos_iff.2 h0
  simp -implicitDefEqProofs (disch:=first | omega | simp) [ifS,ifL,h0,h0',h0'',F8]
  refine Aa (hJ d.up [44] hl2 hr2 (by simp)) ?_
  simp -implicitDefEqProofs (disch:=first | omega | simp) [ifS,ifL,h0,h0',h0'',F8]
theorem YH (hF:EB (D 120)) (hJ:MJ (D 187)) (hD:J5 (D 192)):JM (Body D HY):=by
 intro d hl hl2 hv hr hv2 hr2
 have h1:=E5 hv2
 have h2:=F9 (sep:=[44]) hr2 (by simp)
 have h3:=X9 hv hr
 simp -implicitDefEqProofs
 refine Aa (hD d.deal hl hv hr) ?_
 simp -implicitDefEqProofs (disch:=first | omega | simp) [ifS,ifL,F8]
 refine Aa (hF d.tries hv2) ?_
 by_cases h0:d.up=[]
 ·simp -implicitDefEqProofs (disch:=first | omega | simp) [ifS,ifL,h0,F8]
 ·have h0':(0:Int)<d.up.length:=by have:=List.length_pos_iff.2 h0;omega
  have h0'':0<d.up.length:=List.length_pos_iff.2 h0
  simp -implicitDefEqProofs (disch:=first | omega | simp) [ifS,ifL,h0,h0',h0'',F8]
  refine Aa (hJ d.up [44] hl2 hr2 (by simp)) ?_
  simp -implicitDefEqProofs (disch:=first | omega | simp) [ifS,ifL,h0,h0',h0'',F8]
def FD (r:AX):List UInt8:=[118]++itoa r.version++ [32]++Hf r.stages [44]++(if r.off=true then [111,102,102]else [64]++itoa r.pos)
theorem QZ {r:AX} (hv:Py r.version) (hr:DK r.stages) (hp:Py r.pos):(FD r).length<=21*r.stages.length+50:=by
 have h1:=E5 hv
 have h2:=F9 (sep:=[44]) hr (by simp)
 have h3:=E5 hp
 unfold FD
 split<;>simp<;>omega
abbrev Gy:Prop:=∀r:AX,r.stages.length<=4194304->Py r.version->DK r.stages->Py r.pos->R [arg (Dj r)] [] (Sb (FD r)) []
theorem ANa (hF:EB (D 93)) (hJ:MJ (D 154)):Gy (Body D AFv):=by
 intro r hl hv hr hp
 have h1:=E5 hv
 have h2:=F9 (sep:=[44]) hr (by simp)
 have h3:=E5 hp
 simp -implicitDefEqProofs
 refine Aa (hF r.version hv) ?_
 simp -implicitDefEqProofs (disch:=first | omega | simp) [ifS,ifL,FD]
 refine Aa (hJ r.stages [44] hl hr (by simp)) ?_
 by_cases ho:r.off=true
 ·simp -implicitDefEqProofs (disch:=first | omega | simp) [ifS,ifL,ho,FD]
 ·simp -implicitDefEqProofs (disch:=first | omega | simp) [ifS,ifL,ho,FD]
  refine Aa (hF r.pos hp) ?_
  simp -implicitDefEqProofs (disch:=first | omega | simp) [ifS,ifL,ho,FD]
theorem WS (hF:EB (D 120)) (hJ:MJ (D 187)):Gy (Body D GY):=by
 intro r hl hv hr hp
 have h1:=E5 hv
 have h2:=F9 (sep:=[44]) hr (by simp)
 have h3:=E5 hp
 simp -implicitDefEqProofs
 refine Aa (hF r.version hv) ?_
 simp -implicitDefEqProofs (disch:=first | omega | simp) [ifS,ifL,FD]
 refine Aa (hJ r.stages [44] hl hr (by simp)) ?_
 by_cases ho:r.off=true
 ·simp -implicitDefEqProofs (disch:=first | omega | simp) [ifS,ifL,ho,FD]
 ·simp -implicitDefEqProofs (disch:=first | omega | simp) [ifS,ifL,ho,FD]
  refine Aa (hF r.pos hp) ?_
  simp -implicitDefEqProofs (disch:=first | omega | simp) [ifS,ifL,ho,FD]
def OI (e:Ai):List UInt8:=fmtList e.versions++ [124]++fmtList e.tags++ [124]++itoa (e.path.length:Int)
abbrev Pm:Prop:=∀e:Ai,e.versions.length<=4194304->DK e.versions->e.tags.length<=4194304->DK e.tags->e.path.length<=4194304->R [arg (Ah e)] [] (Sb (OI e)) []
theorem AOp (hF:EB (D 93)) (hL:Kb (D 85)):Pm (Body D ALF):=by
 intro e hl1 hr1 hl2 hr2 hp
 have hn:Py (e.path.length:Int):=by unfold Py;omega
 have h1:=M0 hr1
 have h2:=M0 hr2
 have h3:=E5 hn
 simp -implicitDefEqProofs
 refine Aa (hL e.versions hl1 hr1) ?_
 simp -implicitDefEqProofs (disch:=first | omega | simp) [ifS,ifL,OI]
 refine Aa (hL e.tags hl2 hr2) ?_
 simp -implicitDefEqProofs (disch:=first | omega | simp) [ifS,ifL,OI]
 refine Aa (hF (e.path.length:Int) hn) ?_
 simp -implicitDefEqProofs (disch:=first | omega | simp) [ifS,ifL,OI]
theorem AeL (hF:EB (D 120)) (hL:Kb (D 122)):Pm (Body D KQ):=by
 intro e hl1 hr1 hl2 hr2 hp
 have hn:Py (e.path.length:Int):=by unfold Py;omega
 have h1:=M0 hr1
 have h2:=M0 hr2
 have h3:=E5 hn
 simp -implicitDefEqProofs
 refine Aa (hL e.versions hl1 hr1) ?_
 simp -implicitDefEqProofs (disch:=first | omega | simp) [ifS,ifL,OI]
 refine Aa (hL e.tags hl2 hr2) ?_
 simp -implicitDefEqProofs (disch:=first | omega | simp) [ifS,ifL,OI]
 refine Aa (hF (e.path.length:Int) hn) ?_
 simp -implicitDefEqProofs (disch:=first | omega | simp) [ifS,ifL,OI]
end Go.Eng.T
namespace Go.Eng.T
open Go.Lib
set_option maxRecDepth 20000
set_option maxHeartbeats 2000000
theorem APP (a b c:Int):Hf [a,b,c] [32]=itoa a++32::(itoa b++32::itoa c):=by
 unfold Hf
 simp[join_cons,joinTail]
def VE (w:World):List UInt8:=itoa w.now++ [32]++Hf w.server [44]++ [32]++FD w.rollout++ [32]++Hf [(w.ends.length:Int),(w.log.length:Int),w.hurt] [32]
abbrev K9 (R:Rel):Prop:=∀w:World,w.server.length<=4194304->DK w.server->w.rollout.stages.length<=4194304->Py w.rollout.version->DK w.rollout.stages->Py w.rollout.pos->w.ends.length<=4194304->w.log.length<=4194304->Py w.now->Py w.hurt->R [arg (Bu w)] [] (Sb (VE w)) []
theorem ANV (D:Dn) (hF:EB (D 93)) (hJ:MJ (D 154)) (hR:Gy (D 160)):K9 (Body D AJw):=by
 intro w hs hrs hst hv hrst hp he hlg hn hh
 have n1:Py (w.ends.length:Int):=by unfold Py;omega
 have n2:Py (w.log.length:Int):=by unfold Py;omega
 have l1:=E5 hn
 have l2:=F9 (sep:=[44]) hrs (by simp)
 have l3:=QZ hv hrst hp
 have l4:=E5 n1
 have l5:=E5 n2
 have l6:=E5 hh
 simp -implicitDefEqProofs
 refine Aa (hF w.now hn) ?_
 simp -implicitDefEqProofs (disch:=first | omega | simp) [ifS,ifL]
 refine Aa (hJ w.server [44] hs hrs (by simp)) ?_
 simp -implicitDefEqProofs (disch:=first | omega | simp) [ifS,ifL]
 refine Aa (hR w.rollout hst hv hrst hp) ?_
 simp -implicitDefEqProofs (disch:=first | omega | simp) [ifS,ifL]
 refine Aa (hF (w.ends.length:Int) n1) ?_
 simp -implicitDefEqProofs (disch:=first | omega | simp) [ifS,ifL]
 refine Aa (hF (w.log.length:Int) n2) ?_
 simp -implicitDefEqProofs (disch:=first | omega | simp) [ifS,ifL]
 refine Aa (hF w.hurt hh) ?_
 simp -implicitDefEqProofs (disch:=first | omega | simp) [ifS,ifL,VE,APP]
theorem Abo (D:Dn) (hF:EB (D 120)) (hJ:MJ (D 187)) (hR:Gy (D 199)):K9 (Body D IA):=by
 intro w hs hrs hst hv hrst hp he hlg hn hh
 have n1:Py (w.ends.length:Int):=by unfold Py;omega
 have n2:Py (w.log.length:Int):=by unfold Py;omega
 have n3:DK [(w.ends.length:Int),(w.log.length:Int),w.hurt]:=by
  intro x hx
  simp only[List.mem_cons,List.not_mem_nil,or_false]at hx
  rcases hx with rfl | rfl | rfl
  ·exact n1
  ·exact n2
  ·exact hh
 have l1:=E5 hn
 have l2:=F9 (sep:=[44]) hrs (by simp)
 have l3:=QZ hv hrst hp
 have l4:=E5 n1
 have l5:=E5 n2
 have l6:=E5 hh
 have hj:=hJ [(w.ends.length:Int),(w.log.length:Int),w.hurt] [32] (by simp) n3 (by simp)
 have l7:=F9 (sep:=[32]) n3 (by simp)
 generalize hjj:Hf [(w.ends.length:Int),(w.log.length:Int),w.hurt] [32]=jj at hj l7
 simp at l7
 simp -implicitDefEqProofs
 refine Aa (hF w.now hn) ?_
 simp -implicitDefEqProofs (disch:=first | omega | simp) [ifS,ifL]
 refine Aa (hJ w.server [44] hs hrs (by simp)) ?_
 simp -implicitDefEqProofs (disch:=first | omega | simp) [ifS,ifL]
 refine Aa (hR w.rollout hst hv hrst hp) ?_
 simp -implicitDefEqProofs (disch:=first | omega | simp) [ifS,ifL]
 refine Aa hj ?_
 simp -implicitDefEqProofs (disch:=first | omega | simp) [ifS,ifL,VE,hjj]
end Go.Eng.T
namespace Go.Eng.T
set_option maxRecDepth 20000
variable (R:Rel)
abbrev Je:Prop:=∀r:AX,Db r<=4194304->R [arg (Dj r)] [] (.agg (Dj r)) []
variable (D:Dn)
theorem Alw:Je (Body D NA):=by
 intro r h
 have hb:r.stages.length*8<=1099511627776:=by unfold Db at h;omega
 simp -implicitDefEqProofs [hb]
theorem AEp:Je (Body D Aui):=by
 intro r h
 have hb:r.stages.length*8<=1099511627776:=by unfold Db at h;omega
 simp -implicitDefEqProofs [hb]
abbrev NY:Prop:=∀d:BP,Cb d<=4194304->R [arg (AB d)] [] (.agg (AB d)) []
theorem Af8:NY (Body D KY):=by
 intro d h
 unfold Cb ND at h
 have h1:d.deal.tags.length*8<=1099511627776:=by omega
 have h2:d.up.length*8<=1099511627776:=by omega
 simp -implicitDefEqProofs [h1,h2]
theorem AGn:NY (Body D AuL):=by
 intro d h
 unfold Cb ND at h
 have h1:d.deal.tags.length*8<=1099511627776:=by omega
 have h2:d.up.length*8<=1099511627776:=by omega
 simp -implicitDefEqProofs [h1,h2]
theorem R3 {α:Type} {f:α->List V} {xs:List α} {j:Nat} (h:j<xs.length):(xs.take j).flatMap f++f xs[j]=(xs.take (j+1)).flatMap f:=by
 have e:xs.take (j+1)=xs.take j++ [xs[j]]:=by simp
 rw[e,List.flatMap_append];simp
abbrev AAf:Prop:=∀xs:List EG,Cr Gm xs<=4194304->R [.sl 1 4 xs.length (xs.flatMap DT)] [] (.sl 0 4 xs.length (xs.flatMap DT)) []
theorem AHH:AAf (Body D Awh):=by
 intro xs h
 have hlen:=J9 (f:=Gm) (xs:=xs)
 simp -implicitDefEqProofs
 refine Ag (fun k s=>∃j o1 o2 o3 o4 o5 o6 o7,j+k=xs.length/\s=⟨[.undef,.undef,.arr 8,.undef,.sl 1 4 xs.length (xs.flatMap DT),.sc (.int .i64 xs.length),.sc (.int .i64 j),.undef],[.free,o1,o2,o3,o4,o5,o6,o7,.arr 4 0 j ((xs.take j).flatMap DT)]⟩) ?_ xs.length _ ⟨0,.free,.free,.free,.free,.free,.free,.free,by simp,by simp⟩
 intro k s ⟨j,o1,o2,o3,o4,o5,o6,o7,hj,hs⟩
 subst hs
 by_cases hjn:j<xs.length
 ·have hw:=Cv (j:=j) (by omega)
  have hsz:=size_at (f:=Gm) hjn
  have e:Gm xs[j]=xs[j].drops.length+xs[j].strips.length:=rfl
  have h1:xs[j].drops.length*8<=1099511627776:=by omega
  have h2:xs[j].strips.length*8<=1099511627776:=by omega
  have h3:(j+1)*64<=1099511627776:=by omega
  have hst:=R3 (f:=DT) hjn
  simp -implicitDefEqProofs [hjn,h1,h2,h3]
  exact⟨k-1,by omega,j+1,by omega,by simp[hw],rfl,by rw[<-hst];rfl⟩
 ·obtain rfl:j=xs.length:=by omega
  simp -implicitDefEqProofs
abbrev MF:Prop:=∀x:Ai,Am x<=4194304->R [arg (Ah x)] [] (.agg (Ah x)) []
theorem ADP (hP:AAf (D 172)):MF (Body D AtZ):=by
 intro x h
 unfold Am at h
 have h1:x.versions.length*8<=1099511627776:=by omega
 have h2:x.tags.length*8<=1099511627776:=by omega
 simp -implicitDefEqProofs [h1,h2]
 refine Aa (hP x.path (by omega)) ?_
 simp -implicitDefEqProofs
theorem Anh:MF (Body D OM):=by
 intro x h
 unfold Am at h
 have h1:x.versions.length*8<=1099511627776:=by omega
 have h2:x.tags.length*8<=1099511627776:=by omega
 have hlen:=J9 (f:=Gm) (xs:=x.path)
 simp -implicitDefEqProofs [h1,h2]
 refine Ag (fun k s=>∃j o7 o8 o9 o10 o11 o12 o13,j+k=x.path.length/\s=⟨[.undef,.ptr 0 0,.ptr 1 0,.ptr 6 0,.sc (.int .i64 j),.undef,.undef],[.var ((Ah x).map (AO 1)),.var [.nil 1,.nil 1,.nil 4,.sc (.int .i64 0)],.dead,.arr 1 0 x.versions.length (ints x.versions),.dead,.arr 1 0 x.tags.length (ints x.tags),.var [.arr 3,.arr 5,.arr 14,.sc (.int .i64 x.cls)],o7,o8,o9,o10,o11,o12,o13,.arr 4 0 j ((x.path.take j).flatMap DT)]⟩) ?_ x.path.length _ ⟨0,.free,.free,.free,.free,.free,.free,.free,by simp,by simp⟩
 intro k s ⟨j,o7,o8,o9,o10,o11,o12,o13,hj,hs⟩
 subst hs
 by_cases hjn:j<x.path.length
 ·have hw:=Cv (j:=j) (by omega)
  have hsz:=size_at (f:=Gm) hjn
  have e:Gm x.path[j]=x.path[j].drops.length+x.path[j].strips.length:=rfl
  have h1:x.path[j].drops.length*8<=1099511627776:=by omega
  have h2:x.path[j].strips.length*8<=1099511627776:=by omega
  have h3:(j+1)*64<=1099511627776:=by omega
  have hst:=R3 (f:=DT) hjn
  simp -implicitDefEqProofs [hjn,h1,h2,h3]
  exact⟨k-1,by omega,j+1,by omega,by simp[hw],rfl,by rw[<-hst];rfl⟩
 ·obtain rfl:j=x.path.length:=by omega
  simp -implicitDefEqProofs
theorem XH {w:World} (h:Af w<=4194304):Db w.rollout<=4194304:=by unfold Af at h;omega
theorem Od {w:World} (h:Af w<=4194304):w.server.length<=4194304/\w.tags.length<=4194304/\Cr Am w.ends<=4194304/\Cr Cb w.stage<=4194304/\Cr Ip w.log<=4194304:=by unfold Af at h;omega
abbrev EF:Prop:=∀w:World,Af w<=4194304->R [arg (Bu w)] [] (.agg (Bu w)) []
theorem Aka (hE:MF (D 65)) (hR:Je (D 66)) (hD:NY (D 67)):EF (Body D Na):=by
 intro w h
 have hl:=Akl h
 have he:=FE h
 have hs:=XY h
 have hr:=XH h
 have z:=Od h
 have b1:w.server.length*8<=1099511627776:=by omega
 have b2:w.tags.length*8<=1099511627776:=by omega
 simp -implicitDefEqProofs [b1,b2]
 refine Ag (fun k s=>∃j o8 o9 o10 o11 o12,j+k=w.ends.length/\s=⟨[.undef,.ptr 0 0,.ptr 1 0,.ptr 2 0,.sc (.int .i64 j),.undef,.undef,.undef,.undef,.undef],[.var ((Bu w).map (AO 1)),.var [.nil 1,.nil 1,.sc (.int .i64 0),.nil 4,.sc (.int .i64 0),.nil 1,.sc (.int .i64 0),.sc (.bool false),.sc (.int .i64 0),.sc (.int .i64 0),.nil 5,.nil 8,.sc (.int .i64 0),.sc (.int .i64 0),.sc (.int .i64 0)],.var [.arr 4,.arr 6,.sc (.int .i64 w.key),.arr 24,.sc (.int .i64 w.rollout.version),.sl 1 1 w.rollout.stages.length (ints w.rollout.stages),.sc (.int .i64 w.rollout.pos),.sc (.bool w.rollout.off),.sc (.int .i64 w.least),.sc (.int .i64 w.percent),.sl 1 5 w.stage.length (w.stage.flatMap AB),.sl 1 8 w.log.length (w.log.flatMap Az),.sc (.int .i64 w.now),.sc (.int .i64 w.hurt),.sc (.int .i64 w.reached)],.dead,.arr 1 0 w.server.length (ints w.server),.dead,.arr 1 0 w.tags.length (ints w.tags),.free,o8,o9,o10,o11,o12,.free,.free,.free,.free,.free,.free,.free,.free,.free,.free,.free,.arr 4 0 j ((w.ends.take j).flatMap Ah),.free,.free]⟩) ?_ w.ends.length _ ⟨0,by simp⟩
 intro k s ⟨j,o8,o9,o10,o11,o12,hj,hs'⟩
 subst hs'
 by_cases hjn:j<w.ends.length
 ·have hw:=Cv (j:=j) (by omega)
  have hsz:=size_at (f:=Am) hjn
  have h3:(j+1)*80<=1099511627776:=by omega
  have hst:=R3 (f:=Ah) hjn
  simp -implicitDefEqProofs [hjn]
  refine Aa (hE w.ends[j] (by first | omega | (simp only[Ip]at hsz;omega))) ?_
  simp -implicitDefEqProofs [hjn,h3]
  exact⟨k-1,by omega,j+1,by omega,by simp[hw],rfl,by rw[<-hst];rfl⟩
 obtain rfl:j=w.ends.length:=by omega
 simp -implicitDefEqProofs
 refine Aa (hR w.rollout hr) ?_
 simp -implicitDefEqProofs
 refine Ag (fun k s=>∃j o8 o9 o10 o11 o12 o15 o16 o17 o18,j+k=w.stage.length/\s=⟨[.undef,.ptr 0 0,.ptr 1 0,.ptr 2 0,.undef,.sc (.int .i64 j),.undef,.undef,.undef,.undef],[.var ((Bu w).map (AO 1)),.var [.nil 1,.nil 1,.sc (.int .i64 0),.nil 4,.sc (.int .i64 0),.nil 1,.sc (.int .i64 0),.sc (.bool false),.sc (.int .i64 0),.sc (.int .i64 0),.nil 5,.nil 8,.sc (.int .i64 0),.sc (.int .i64 0),.sc (.int .i64 0)],.var [.arr 4,.arr 6,.sc (.int .i64 w.key),.arr 24,.sc (.int .i64 w.rollout.version),.arr 13,.sc (.int .i64 w.rollout.pos),.sc (.bool w.rollout.off),.sc (.int .i64 w.least),.sc (.int .i64 w.percent),.arr 25,.sl 1 8 w.log.length (w.log.flatMap Az),.sc (.int .i64 w.now),.sc (.int .i64 w.hurt),.sc (.int .i64 w.reached)],.dead,.arr 1 0 w.server.length (ints w.server),.dead,.arr 1 0 w.tags.length (ints w.tags),.free,o8,o9,o10,o11,o12,.arr 1 0 w.rollout.stages.length (ints w.rollout.stages),.free,o15,o16,o17,o18,.free,.free,.free,.free,.free,.arr 4 0 w.ends.length (w.ends.flatMap Ah),.arr 5 0 j ((w.stage.take j).flatMap AB),.free]⟩) ?_ w.stage.length _ ⟨0,by simp⟩
 intro k s ⟨j,o8,o9,o10,o11,o12,o15,o16,o17,o18,hj,hs'⟩
 subst hs'
 by_cases hjn:j<w.stage.length
 ·have hw:=Cv (j:=j) (by omega)
  have hsz:=size_at (f:=Cb) hjn
  have h3:(j+1)*72<=1099511627776:=by omega
  have hst:=R3 (f:=AB) hjn
  simp -implicitDefEqProofs [hjn]
  refine Aa (hD w.stage[j] (by first | omega | (simp only[Ip]at hsz;omega))) ?_
  simp -implicitDefEqProofs [hjn,h3]
  exact⟨k-1,by omega,j+1,by omega,by simp[hw],rfl,by rw[<-hst];rfl⟩
 obtain rfl:j=w.stage.length:=by omega
 simp -implicitDefEqProofs
 refine Ag (fun k s=>∃j o8 o9 o10 o11 o12 o15 o16 o17 o18 o20 o21 o22 o23,j+k=w.log.length/\s=⟨[.undef,.ptr 0 0,.ptr 1 0,.ptr 2 0,.undef,.undef,.sc (.int .i64 j),.undef,.undef,.undef],[.var ((Bu w).map (AO 1)),.var [.nil 1,.nil 1,.sc (.int .i64 0),.nil 4,.sc (.int .i64 0),.nil 1,.sc (.int .i64 0),.sc (.bool false),.sc (.int .i64 0),.sc (.int .i64 0),.nil 5,.nil 8,.sc (.int .i64 0),.sc (.int .i64 0),.sc (.int .i64 0)],.var [.arr 4,.arr 6,.sc (.int .i64 w.key),.arr 24,.sc (.int .i64 w.rollout.version),.arr 13,.sc (.int .i64 w.rollout.pos),.sc (.bool w.rollout.off),.sc (.int .i64 w.least),.sc (.int .i64 w.percent),.arr 25,.arr 26,.sc (.int .i64 w.now),.sc (.int .i64 w.hurt),.sc (.int .i64 w.reached)],.dead,.arr 1 0 w.server.length (ints w.server),.dead,.arr 1 0 w.tags.length (ints w.tags),.free,o8,o9,o10,o11,o12,.arr 1 0 w.rollout.stages.length (ints w.rollout.stages),.free,o15,o16,o17,o18,.free,o20,o21,o22,o23,.arr 4 0 w.ends.length (w.ends.flatMap Ah),.arr 5 0 w.stage.length (w.stage.flatMap AB),.arr 8 0 j ((w.log.take j).flatMap Az)]⟩) ?_ w.log.length _ ⟨0,by simp⟩
 intro k s ⟨j,o8,o9,o10,o11,o12,o15,o16,o17,o18,o20,o21,o22,o23,hj,hs'⟩
 subst hs'
 by_cases hjn:j<w.log.length
 ·have hw:=Cv (j:=j) (by omega)
  have hsz:=size_at (f:=Ip) hjn
  have h3:(j+1)*96<=1099511627776:=by omega
  have hst:=R3 (f:=Az) hjn
  simp -implicitDefEqProofs [hjn]
  refine Aa (hD w.log[j].dialed (by first | omega | (simp only[Ip]at hsz;omega))) ?_
  simp -implicitDefEqProofs [hjn,h3]
  exact⟨k-1,by omega,j+1,by omega,by simp[hw],rfl,by rw[<-hst];rfl⟩
 obtain rfl:j=w.log.length:=by omega
 simp -implicitDefEqProofs
theorem AHd (hE:MF (D 102)) (hR:Je (D 101)) (hD:NY (D 103)):EF (Body D Avi):=by
 intro w h
 have hl:=Akl h
 have he:=FE h
 have hs:=XY h
 have hr:=XH h
 have z:=Od h
 have b1:w.server.length*8<=1099511627776:=by omega
 have b2:w.tags.length*8<=1099511627776:=by omega
 simp -implicitDefEqProofs [b1,b2]
 refine Aa (hR w.rollout hr) ?_
 simp -implicitDefEqProofs
 refine Ag (fun k s=>∃j o8 o9 o10 o11 o12 o13,j+k=w.ends.length/\s=⟨[.undef,.ptr 0 0,.ptr 1 0,.ptr 2 0,.undef,.undef,.undef,.sl 1 4 w.ends.length (w.ends.flatMap Ah),.sc (.int .i64 w.ends.length),.sc (.int .i64 j),.undef,.undef,.undef,.undef,.undef,.undef,.undef,.undef,.undef],[.var ((Bu w).map (AO 1)),.var [.nil 1,.nil 1,.sc (.int .i64 0),.nil 4,.sc (.int .i64 0),.nil 1,.sc (.int .i64 0),.sc (.bool false),.sc (.int .i64 0),.sc (.int .i64 0),.nil 5,.nil 8,.sc (.int .i64 0),.sc (.int .i64 0),.sc (.int .i64 0)],.var [.arr 4,.arr 6,.sc (.int .i64 w.key),.arr 24,.sc (.int .i64 w.rollout.version),.arr 7,.sc (.int .i64 w.rollout.pos),.sc (.bool w.rollout.off),.sc (.int .i64 w.least),.sc (.int .i64 w.percent),.arr 25,.arr 26,.sc (.int .i64 w.now),.sc (.int .i64 w.hurt),.sc (.int .i64 w.reached)],.dead,.arr 1 0 w.server.length (ints w.server),.dead,.arr 1 0 w.tags.length (ints w.tags),.arr 1 0 w.rollout.stages.length (ints w.rollout.stages),o8,o9,o10,o11,o12,o13,.free,.free,.free,.free,.free,.free,.free,.free,.free,.free,.arr 4 0 j ((w.ends.take j).flatMap Ah),.arr 5 0 0 [],.arr 8 0 0 []]⟩) ?_ w.ends.length _ ⟨0,by simp⟩
 intro k s ⟨j,o8,o9,o10,o11,o12,o13,hj,hs'⟩
 subst hs'
 by_cases hjn:j<w.ends.length
 ·have hw:=Cv (j:=j) (by omega)
  have hsz:=size_at (f:=Am) hjn
  have h3:(j+1)*80<=1099511627776:=by omega
  have hst:=R3 (f:=Ah) hjn
  simp -implicitDefEqProofs [hjn]
  refine Aa (hE w.ends[j] (by first | omega | (simp only[Ip]at hsz;omega))) ?_
  simp -implicitDefEqProofs [hjn,h3]
  exact⟨k-1,by omega,j+1,by omega,by simp[hw],rfl,by rw[<-hst];rfl⟩
 obtain rfl:j=w.ends.length:=by omega
 simp -implicitDefEqProofs
 refine Ag (fun k s=>∃j o8 o9 o10 o11 o12 o13 o14 o15 o16 o17 o18,j+k=w.stage.length/\s=⟨[.undef,.ptr 0 0,.ptr 1 0,.ptr 2 0,.undef,.undef,.undef,.undef,.undef,.undef,.undef,.sl 1 5 w.stage.length (w.stage.flatMap AB),.sc (.int .i64 w.stage.length),.sc (.int .i64 j),.undef,.undef,.undef,.undef,.undef],[.var ((Bu w).map (AO 1)),.var [.nil 1,.nil 1,.sc (.int .i64 0),.nil 4,.sc (.int .i64 0),.nil 1,.sc (.int .i64 0),.sc (.bool false),.sc (.int .i64 0),.sc (.int .i64 0),.nil 5,.nil 8,.sc (.int .i64 0),.sc (.int .i64 0),.sc (.int .i64 0)],.var [.arr 4,.arr 6,.sc (.int .i64 w.key),.arr 24,.sc (.int .i64 w.rollout.version),.arr 7,.sc (.int .i64 w.rollout.pos),.sc (.bool w.rollout.off),.sc (.int .i64 w.least),.sc (.int .i64 w.percent),.arr 25,.arr 26,.sc (.int .i64 w.now),.sc (.int .i64 w.hurt),.sc (.int .i64 w.reached)],.dead,.arr 1 0 w.server.length (ints w.server),.dead,.arr 1 0 w.tags.length (ints w.tags),.arr 1 0 w.rollout.stages.length (ints w.rollout.stages),o8,o9,o10,o11,o12,o13,o14,o15,o16,o17,o18,.free,.free,.free,.free,.free,.arr 4 0 w.ends.length (w.ends.flatMap Ah),.arr 5 0 j ((w.stage.take j).flatMap AB),.arr 8 0 0 []]⟩) ?_ w.stage.length _ ⟨0,by simp⟩
 intro k s ⟨j,o8,o9,o10,o11,o12,o13,o14,o15,o16,o17,o18,hj,hs'⟩
 subst hs'
 by_cases hjn:j<w.stage.length
 ·have hw:=Cv (j:=j) (by omega)
  have hsz:=size_at (f:=Cb) hjn
  have h3:(j+1)*72<=1099511627776:=by omega
  have hst:=R3 (f:=AB) hjn
  simp -implicitDefEqProofs [hjn]
  refine Aa (hD w.stage[j] (by first | omega | (simp only[Ip]at hsz;omega))) ?_
  simp -implicitDefEqProofs [hjn,h3]
  exact⟨k-1,by omega,j+1,by omega,by simp[hw],rfl,by rw[<-hst];rfl⟩
 obtain rfl:j=w.stage.length:=by omega
 simp -implicitDefEqProofs
 refine Ag (fun k s=>∃j o8 o9 o10 o11 o12 o13 o14 o15 o16 o17 o18 o19 o20 o21 o22 o23,j+k=w.log.length/\s=⟨[.undef,.undef,.ptr 1 0,.ptr 2 0,.undef,.undef,.undef,.undef,.undef,.undef,.undef,.undef,.undef,.undef,.undef,.sl 1 8 w.log.length (w.log.flatMap Az),.sc (.int .i64 w.log.length),.sc (.int .i64 j),.undef],[.var ((Bu w).map (AO 1)),.var [.nil 1,.nil 1,.sc (.int .i64 0),.nil 4,.sc (.int .i64 0),.nil 1,.sc (.int .i64 0),.sc (.bool false),.sc (.int .i64 0),.sc (.int .i64 0),.nil 5,.nil 8,.sc (.int .i64 0),.sc (.int .i64 0),.sc (.int .i64 0)],.var [.arr 4,.arr 6,.sc (.int .i64 w.key),.arr 24,.sc (.int .i64 w.rollout.version),.arr 7,.sc (.int .i64 w.rollout.pos),.sc (.bool w.rollout.off),.sc (.int .i64 w.least),.sc (.int .i64 w.percent),.arr 25,.arr 26,.sc (.int .i64 w.now),.sc (.int .i64 w.hurt),.sc (.int .i64 w.reached)],.dead,.arr 1 0 w.server.length (ints w.server),.dead,.arr 1 0 w.tags.length (ints w.tags),.arr 1 0 w.rollout.stages.length (ints w.rollout.stages),o8,o9,o10,o11,o12,o13,o14,o15,o16,o17,o18,o19,o20,o21,o22,o23,.arr 4 0 w.ends.length (w.ends.flatMap Ah),.arr 5 0 w.stage.length (w.stage.flatMap AB),.arr 8 0 j ((w.log.take j).flatMap Az)]⟩) ?_ w.log.length _ ⟨0,by simp⟩
 intro k s ⟨j,o8,o9,o10,o11,o12,o13,o14,o15,o16,o17,o18,o19,o20,o21,o22,o23,hj,hs'⟩
 subst hs'
 by_cases hjn:j<w.log.length
 ·have hw:=Cv (j:=j) (by omega)
  have hsz:=size_at (f:=Ip) hjn
  have h3:(j+1)*96<=1099511627776:=by omega
  have hst:=R3 (f:=Az) hjn
  simp -implicitDefEqProofs [hjn]
  refine Aa (hD w.log[j].dialed (by first | omega | (simp only[Ip]at hsz;omega))) ?_
  simp -implicitDefEqProofs [hjn,h3]
  exact⟨k-1,by omega,j+1,by omega,by simp[hw],rfl,by rw[<-hst];rfl⟩
 obtain rfl:j=w.log.length:=by omega
 simp -implicitDefEqProofs
abbrev NJ (a b c:Int):Prop:=b<=a/\a<=c
def Ju (xs:List Int) (j:Nat):Bool:=(List.range j).all fun i=>decide (NJ (xs.getD i 0) 1 100)&&(decide (i=0)||decide (xs.getD (i-1) 0<xs.getD i 0))
theorem XR (xs:List Int) (j:Nat):Ju xs (j+1)=(Ju xs j&&(decide (NJ (xs.getD j 0) 1 100)&&(decide (j=0)||decide (xs.getD (j-1) 0<xs.getD j 0)))):=by
 unfold Ju
 rw[List.range_succ,List.all_append]
 simp
theorem AgA {xs:List Int} {j:Nat} (h:j<xs.length) (hn:Ju xs (j+1)=false):Ju xs xs.length=false:=by
 have:∀n,Ju xs (j+1+n)=false:=by
  intro n
  induction n with
  | zero=>exact hn
  | succ n ih=>rw[show j+1+(n+1)=(j+1+n)+1 by omega,XR,ih];rfl
 have:=this (xs.length-(j+1))
 rwa [show j+1+(xs.length-(j+1))=xs.length by omega]at this
def AP (r:AX):Bool:=
 Ju r.stages r.stages.length&&(decide (NJ r.version 1 9)&&decide (NJ r.stages.length 1 5)&&decide (r.stages.getD (r.stages.length-1) 0=100)&&decide (NJ r.pos 0 (r.stages.length-1)))
abbrev FX:Prop:=∀r:AX,r.stages.length<=4194304->R [arg (Dj r)] [] (B (AP r)) []
theorem getD_at {xs:List Int} {j:Nat} (h:j<xs.length):xs.getD j 0=xs[j]:=by simp[h]
theorem AeT (hI:Vf (D 71)):FX (Body D Kv):=by
 intro r hl
 simp -implicitDefEqProofs
 refine Ag (fun k s=>∃j,j+k=r.stages.length/\Ju r.stages j=true/\s=⟨[.undef,.ptr 0 0,.undef,.sc (.int .i64 j),.undef,.undef],[.var ((Dj r).map (AO 1))]⟩) ?_ r.stages.length _ ⟨0,by simp,by simp[Ju],by simp⟩
 intro k s ⟨j,hj,hr,hs⟩
 subst hs
 by_cases hjn:j<r.stages.length
 ·have hw:=Cv (j:=j) (by omega)
  have hst:=XR r.stages j
  rw[hr,Bool.true_and,getD_at hjn]at hst
  simp -implicitDefEqProofs [hjn]
  refine Aa (hI _ _ _) ?_
  by_cases h1:NJ r.stages[j] 1 100
  rotate_left
  ·have e:AP r=false:=by unfold AP;rw[AgA hjn (by rw[hst];simp[h1])];rfl
   simp -implicitDefEqProofs [h1,e]
  by_cases h0:j=0
  ·subst h0
   simp -implicitDefEqProofs [h1]
   exact⟨k-1,by omega,1,by omega,by rw[hst];simp[h1],by simpa using hw⟩
  ·have hp:((j-1:Nat):Int)=(j:Int)-1:=by omega
   have hw2:IntKind.i64.wrap ((j:Int)-1)=((j-1:Nat):Int):=by rw[Ad (by omega) (by omega)];omega
   have h2:(0:Int)<j:=by omega
   have h2':0<j:=by omega
   have h3:j-1<r.stages.length:=by omega
   rw[getD_at h3]at hst
   by_cases h4:r.stages[j-1]<r.stages[j]
   ·have h4':¬r.stages[j]<=r.stages[j-1]:=by omega
    simp -implicitDefEqProofs [h1,h2,h2',hw2,h3,hjn,h4']
    exact⟨k-1,by omega,j+1,by omega,by rw[hst];simp[h1,h0,h4],by simp[hw]⟩
   ·have e:AP r=false:=by unfold AP;rw[AgA hjn (by rw[hst];simp[h1,h0,h4])];rfl
    have h4':r.stages[j]<=r.stages[j-1]:=by omega
    simp -implicitDefEqProofs [h1,h2,h2',hw2,h3,hjn,h4',e]
 ·obtain rfl:j=r.stages.length:=by omega
  simp -implicitDefEqProofs
  refine Aa (hI _ _ _) ?_
  by_cases h1:NJ r.version 1 9
  rotate_left
  ·simp -implicitDefEqProofs [h1,AP]
  simp -implicitDefEqProofs [h1]
  refine Aa (hI _ _ _) ?_
  by_cases h2:NJ r.stages.length 1 5
  rotate_left
  ·simp -implicitDefEqProofs [h2,AP]
  have hw2:IntKind.i64.wrap ((r.stages.length:Int)-1)=((r.stages.length-1:Nat):Int):=by rw[Ad (by omega) (by omega)];omega
  have h3:r.stages.length-1<r.stages.length:=by omega
  have h5:0<r.stages.length:=by omega
  by_cases h4:r.stages[r.stages.length-1]=100
  rotate_left
  ·simp -implicitDefEqProofs [h2,hw2,h3,h4,h5,AP]
  simp -implicitDefEqProofs [h2,hw2,h3,h4,h5]
  refine Aa (hI _ _ _) ?_
  have hc:((r.stages.length-1:Nat):Int)=(r.stages.length:Int)-1:=by omega
  have e:AP r=decide (NJ r.pos 0 ((r.stages.length-1:Nat):Int)):=by unfold AP;rw[hr,getD_at h3,h4,hc];simp[h1,h2]
  simp -implicitDefEqProofs [e]
theorem AFU (hI:Vf (D 114)):FX (Body D Avj):=by
 intro r hl
 simp -implicitDefEqProofs
 refine Ag (fun k s=>∃j v3 v4,j+k=r.stages.length/\Ju r.stages j=true/\s=⟨[.undef,.ptr 0 0,.undef,v3,v4,.sl 1 1 r.stages.length (ints r.stages),.sc (.int .i64 r.stages.length),.sc (.int .i64 j),.undef,.undef],[.var ((Dj r).map (AO 1))]⟩) ?_ r.stages.length _ ⟨0,.undef,.undef,by simp,by simp[Ju],by simp⟩
 intro k s ⟨j,v3,v4,hj,hr,hs⟩
 subst hs
 by_cases hjn:j<r.stages.length
 ·have hw:=Cv (j:=j) (by omega)
  have hst:=XR r.stages j
  rw[hr,Bool.true_and,getD_at hjn]at hst
  simp -implicitDefEqProofs [hjn]
  refine Aa (hI _ _ _) ?_
  by_cases h1:NJ r.stages[j] 1 100
  rotate_left
  ·have e:AP r=false:=by unfold AP;rw[AgA hjn (by rw[hst];simp[h1])];rfl
   simp -implicitDefEqProofs [h1,e]
  by_cases h0:j=0
  ·subst h0
   simp -implicitDefEqProofs [h1]
   exact⟨k-1,by omega,1,by omega,by rw[hst];simp[h1],by simpa using hw⟩
  ·have hp:((j-1:Nat):Int)=(j:Int)-1:=by omega
   have hw2:IntKind.i64.wrap ((j:Int)-1)=((j-1:Nat):Int):=by rw[Ad (by omega) (by omega)];omega
   have h2:(0:Int)<j:=by omega
   have h2':0<j:=by omega
   have h3:j-1<r.stages.length:=by omega
   rw[getD_at h3]at hst
   by_cases h4:r.stages[j-1]<r.stages[j]
   ·have h4':¬r.stages[j]<=r.stages[j-1]:=by omega
    simp -implicitDefEqProofs [h1,h2,h2',hw2,h3,hjn,h4']
    exact⟨k-1,by omega,j+1,by omega,by rw[hst];simp[h1,h0,h4],by simp[hw]⟩
   ·have e:AP r=false:=by unfold AP;rw[AgA hjn (by rw[hst];simp[h1,h0,h4])];rfl
    have h4':r.stages[j]<=r.stages[j-1]:=by omega
    simp -implicitDefEqProofs [h1,h2,h2',hw2,h3,hjn,h4',e]
 ·obtain rfl:j=r.stages.length:=by omega
  simp -implicitDefEqProofs
  refine Aa (hI _ _ _) ?_
  by_cases h1:NJ r.version 1 9
  rotate_left
  ·simp -implicitDefEqProofs [h1,AP]
  simp -implicitDefEqProofs [h1]
  refine Aa (hI _ _ _) ?_
  by_cases h2:NJ r.stages.length 1 5
  rotate_left
  ·simp -implicitDefEqProofs [h2,AP]
  have hw2:IntKind.i64.wrap ((r.stages.length:Int)-1)=((r.stages.length-1:Nat):Int):=by rw[Ad (by omega) (by omega)];omega
  have h3:r.stages.length-1<r.stages.length:=by omega
  have h5:0<r.stages.length:=by omega
  by_cases h4:r.stages[r.stages.length-1]=100
  rotate_left
  ·simp -implicitDefEqProofs [h2,hw2,h3,h4,h5,AP]
  simp -implicitDefEqProofs [h2,hw2,h3,h4,h5]
  refine Aa (hI _ _ _) ?_
  have hc:((r.stages.length-1:Nat):Int)=(r.stages.length:Int)-1:=by omega
  have e:AP r=decide (NJ r.pos 0 ((r.stages.length-1:Nat):Int)):=by unfold AP;rw[hr,getD_at h3,h4,hc];simp[h1,h2]
  simp -implicitDefEqProofs [e]
def PV (a b:Int):Int:=if NJ a 0 1000000000000/\NJ b 1 1000000000000 then(a+b-1).tdiv b else 0
abbrev Ui:Prop:=∀a b:Int,R [I a,I b] [] (I (PV a b)) []
theorem AnF {a b:Int} (h1:0<=a) (h2:a<=4000000000000) (h3:1<=b):IntKind.i64.wrap (a.tdiv b)=a.tdiv b:=by
 have a1:0<=a.tdiv b:=Int.tdiv_nonneg h1 (by omega)
 have a2:a.tdiv b<=a:=Int.tdiv_le_self _ h1
 exact Ad (by omega) (by omega)
theorem Ajf (hI:Vf (D 71)):Ui (Body D M9):=by
 intro a b
 simp -implicitDefEqProofs
 refine Aa (hI _ _ _) ?_
 by_cases h1:NJ a 0 1000000000000
 rotate_left
 ·simp -implicitDefEqProofs [h1,PV]
 simp -implicitDefEqProofs [h1]
 refine Aa (hI _ _ _) ?_
 by_cases h2:NJ b 1 1000000000000
 rotate_left
 ·simp -implicitDefEqProofs [h2,PV]
 have w1:IntKind.i64.wrap (a+b)=a+b:=Ad (by omega) (by omega)
 have w2:IntKind.i64.wrap (a+b-1)=a+b-1:=Ad (by omega) (by omega)
 have w3:=AnF (a:=a+b-1) (b:=b) (by omega) (by omega) (by omega)
 have h0:¬b=0:=by omega
 have e:PV a b=(a+b-1).tdiv b:=by unfold PV;rw[if_pos ⟨h1,h2⟩]
 simp -implicitDefEqProofs [h2,w1,w2,w3,h0,e]
theorem AHF (hI:Vf (D 114)):Ui (Body D Aw3):=by
 intro a b
 simp -implicitDefEqProofs
 refine Aa (hI _ _ _) ?_
 by_cases h1:NJ a 0 1000000000000
 rotate_left
 ·simp -implicitDefEqProofs [h1,PV]
 simp -implicitDefEqProofs [h1]
 refine Aa (hI _ _ _) ?_
 by_cases h2:NJ b 1 1000000000000
 rotate_left
 ·simp -implicitDefEqProofs [h2,PV]
 have w1:IntKind.i64.wrap (a+b)=a+b:=Ad (by omega) (by omega)
 have w2:IntKind.i64.wrap (a+b-1)=a+b-1:=Ad (by omega) (by omega)
 have w3:=AnF (a:=a+b-1) (b:=b) (by omega) (by omega) (by omega)
 have h0:¬b=0:=by omega
 have e:PV a b=(a+b-1).tdiv b:=by unfold PV;rw[if_pos ⟨h1,h2⟩]
 simp -implicitDefEqProofs [h2,w1,w2,w3,h0,e]
theorem AfY {xs:List Int} {n:Nat} (h:Ju xs n=true) {i:Nat} (hi:i<n):NJ (xs.getD i 0) 1 100:=by
 unfold Ju at h
 have:=List.all_eq_true.1 h i (List.mem_range.2 hi)
 simp at this
 exact⟨this.1.1,this.1.2⟩
theorem Abf {r:AX} (h:AP r=true):0<=r.pos/\r.pos<r.stages.length/\r.stages.length<=5/\NJ (r.stages.getD r.pos.toNat 0) 1 100:=by
 unfold AP at h
 simp only[Bool.and_eq_true,decide_eq_true_eq]at h
 obtain⟨h1,⟨⟨h2,h3⟩,h4⟩,h5⟩:=h
 refine⟨h5.1,by omega,by omega,AfY h1 (by omega)⟩
def countIn (r:AX) (n:Int):Int:=if AP r=true/\r.off=false/\NJ n 0 10000 then PV (n*r.stages.getD r.pos.toNat 0) 100 else 0
abbrev V3:Prop:=∀(r:AX) (n:Int),r.stages.length<=4194304->R [arg (Dj r),I n] [] (I (countIn r n)) []
theorem AoW {n x:Int} (h1:NJ n 0 10000) (h2:NJ x 1 100):IntKind.i64.wrap (n*x)=n*x:=by
 have a1:0<=n*x:=Int.mul_nonneg h1.1 (by omega)
 have a2:n*x<=10000*100:=Int.mul_le_mul h1.2 h2.2 (by omega) (by omega)
 exact Ad (by omega) (by omega)
theorem AhR (hR:FX (D 145)) (hI:Vf (D 71)) (hC:Ui (D 284)):V3 (Body D NG):=by
 intro r n hl
 simp -implicitDefEqProofs
 refine Aa (hR r hl) ?_
 by_cases h1:AP r=true
 rotate_left
 ·simp -implicitDefEqProofs [h1,countIn]
 by_cases h2:r.off=true
 ·simp -implicitDefEqProofs [h1,h2,countIn]
 simp -implicitDefEqProofs [h1,h2]
 refine Aa (hI _ _ _) ?_
 by_cases h3:NJ n 0 10000
 rotate_left
 ·simp -implicitDefEqProofs [h3,countIn]
 obtain⟨p1,p2,p3,p4⟩:=Abf h1
 obtain⟨q,hq⟩:∃q:Nat,r.pos=q:=⟨r.pos.toNat,by omega⟩
 have hq2:q<r.stages.length:=by omega
 have e:countIn r n=PV (n*r.stages[q]) 100:=by unfold countIn;rw[if_pos ⟨h1,by simpa using h2,h3⟩,hq];simp[hq2]
 have p4':NJ r.stages[q] 1 100:=by rw[hq]at p4;simpa[hq2]using p4
 have hw:=AoW h3 p4'
 simp -implicitDefEqProofs [h3,hq,hq2,hw]
 refine Aa (hC _ _) ?_
 simp -implicitDefEqProofs [e]
theorem AHT (hR:FX (D 176)) (hI:Vf (D 114)) (hC:Ui (D 291)):V3 (Body D AwY):=by
 intro r n hl
 simp -implicitDefEqProofs
 refine Aa (hR r hl) ?_
 by_cases h1:AP r=true
 rotate_left
 ·simp -implicitDefEqProofs [h1,countIn]
 by_cases h2:r.off=true
 ·simp -implicitDefEqProofs [h1,h2,countIn]
 simp -implicitDefEqProofs [h1,h2]
 refine Aa (hI _ _ _) ?_
 by_cases h3:NJ n 0 10000
 rotate_left
 ·simp -implicitDefEqProofs [h3,countIn]
 obtain⟨p1,p2,p3,p4⟩:=Abf h1
 obtain⟨q,hq⟩:∃q:Nat,r.pos=q:=⟨r.pos.toNat,by omega⟩
 have hq2:q<r.stages.length:=by omega
 have e:countIn r n=PV (n*r.stages[q]) 100:=by unfold countIn;rw[if_pos ⟨h1,by simpa using h2,h3⟩,hq];simp[hq2]
 have p4':NJ r.stages[q] 1 100:=by rw[hq]at p4;simpa[hq2]using p4
 have hw:=AoW h3 p4'
 simp -implicitDefEqProofs [h3,hq,hq2,hw]
 refine Aa (hC _ _) ?_
 simp -implicitDefEqProofs [e]
def isIn (r:AX) (i n:Int):Bool:=decide (0<=i)&&decide (i<n)&&decide (i<countIn r n)
abbrev Af6:Prop:=∀(r:AX) (i n:Int),r.stages.length<=4194304->R [arg (Dj r),I i,I n] [] (B (isIn r i n)) []
theorem AoJ (hC:V3 (D 254)):Af6 (Body D Uf):=by
 intro r i n hl
 by_cases h1:0<=i
 ·by_cases h2:i<n
  ·simp -implicitDefEqProofs [h1,h2]
   refine Aa (hC r n hl) ?_
   simp -implicitDefEqProofs [isIn,h1,h2]
  ·simp -implicitDefEqProofs [h1,h2,isIn]
 ·simp -implicitDefEqProofs [h1,isIn]
theorem AKA (hC:V3 (D 263)):Af6 (Body D AzB):=by
 intro r i n hl
 by_cases h1:0<=i
 ·by_cases h2:i<n
  ·simp -implicitDefEqProofs [h1,h2]
   refine Aa (hC r n hl) ?_
   simp -implicitDefEqProofs [isIn,h1,h2]
  ·simp -implicitDefEqProofs [h1,h2,isIn]
 ·simp -implicitDefEqProofs [h1,isIn]
abbrev Au5:Prop:=∀(w:World) (i:Int),w.ends.length<=4194304->R [arg (Bu w),I i] [] (B (decide (NJ i 0 ((w.ends.length:Int)-1)))) []
theorem AKi (hI:Vf (D 114)):Au5 (Body D Axy):=by
 intro w i hl
 have hw:IntKind.i64.wrap ((w.ends.length:Int)-1)=(w.ends.length:Int)-1:=Ad (by omega) (by omega)
 simp -implicitDefEqProofs [hw]
 refine Aa (hI _ _ _) ?_
 simp -implicitDefEqProofs
def Pg (w:World) (i:Int):Bool:=decide (NJ i 0 ((w.ends.length:Int)-1))&&isIn w.rollout i w.ends.length&&(match w.ends[i.toNat]? with | some e=>decide (w.rollout.version∈e.versions) | none=>false)
theorem AgK {w:World} (h:Af w<=4194304) {j:Nat} (hj:j<w.ends.length):w.ends[j].versions.length<=maxLen:=by
 have:=size_at (f:=Am) hj
 have e:Am w.ends[j]=w.ends[j].versions.length+w.ends[j].tags.length+Cr Gm w.ends[j].path:=rfl
 unfold Af at h
 unfold maxLen;omega
theorem OU {w:World} (h:Af w<=4194304):w.rollout.stages.length<=4194304:=by unfold Af Db at h;omega
abbrev Vw:Prop:=∀(w:World) (i:Int),Af w<=4194304->R [arg (Bu w),I i] [] (B (Pg w i)) []
theorem AhV (hI:Vf (D 71)) (hN:Af6 (D 214)) (hH:UQ (D 166)):Vw (Body D Nk):=by
 intro w i hsz
 have hl:=FE hsz
 have hw:IntKind.i64.wrap ((w.ends.length:Int)-1)=(w.ends.length:Int)-1:=Ad (by omega) (by omega)
 simp -implicitDefEqProofs [hw]
 refine Aa (hI _ _ _) ?_
 by_cases h1:NJ i 0 ((w.ends.length:Int)-1)
 rotate_left
 ·simp -implicitDefEqProofs [h1,Pg]
 simp -implicitDefEqProofs [h1]
 refine Aa (hN w.rollout _ _ (OU hsz)) ?_
 by_cases h2:isIn w.rollout i w.ends.length=true
 rotate_left
 ·simp -implicitDefEqProofs [h2,Pg]
 obtain⟨j,rfl⟩:∃j:Nat,i=j:=⟨i.toNat,by omega⟩
 have hj:j<w.ends.length:=by omega
 simp -implicitDefEqProofs [h2,hj]
 refine Aa (hH _ _ (AgK hsz hj)) ?_
 simp -implicitDefEqProofs [Pg,h1,h2,hj]
theorem AIk (hE:Au5 (D 117)) (hN:Af6 (D 228)) (hH:UQ (D 188)):Vw (Body D AwJ):=by
 intro w i hsz
 have hl:=FE hsz
 simp -implicitDefEqProofs
 refine Aa (hE w i hl) ?_
 by_cases h1:NJ i 0 ((w.ends.length:Int)-1)
 rotate_left
 ·simp -implicitDefEqProofs [h1,Pg]
 simp -implicitDefEqProofs [h1]
 refine Aa (hN w.rollout _ _ (OU hsz)) ?_
 by_cases h2:isIn w.rollout i w.ends.length=true
 rotate_left
 ·simp -implicitDefEqProofs [h2,Pg]
 obtain⟨j,rfl⟩:∃j:Nat,i=j:=⟨i.toNat,by omega⟩
 have hj:j<w.ends.length:=by omega
 simp -implicitDefEqProofs [h2,hj]
 refine Aa (hH _ _ (AgK hsz hj)) ?_
 simp -implicitDefEqProofs [Pg,h1,h2,hj]
def ED (w:World) (n:Int):World×Bool:=if NJ n 1 100/\NJ w.now 0 (10000-n)then({w with now:=w.now+n},true)else(w,false)
abbrev RL:Prop:=∀(w:World) (n:Int),Af w<=4194304->R [arg (Bu w),I n] [] (.tup [.agg (Bu (ED w n).1),B (ED w n).2]) []
theorem AfW (hC:EF (D 22)) (hI:Vf (D 71)):RL (Body D LV):=by
 intro w n h
 simp -implicitDefEqProofs
 refine Aa (hC w h) ?_
 simp -implicitDefEqProofs
 refine Aa (hI _ _ _) ?_
 by_cases h1:NJ n 1 100
 rotate_left
 ·have e:ED w n=(w,false):=by unfold ED;rw[if_neg (by omega)]
  simp -implicitDefEqProofs [h1,e]
 have hw:IntKind.i64.wrap (10000-n)=10000-n:=Ad (by omega) (by omega)
 simp -implicitDefEqProofs [h1,hw]
 refine Aa (hI _ _ _) ?_
 by_cases h2:NJ w.now 0 (10000-n)
 rotate_left
 ·have e:ED w n=(w,false):=by unfold ED;rw[if_neg (by omega)]
  simp -implicitDefEqProofs [h2,e]
 have hw2:IntKind.i64.wrap (w.now+n)=w.now+n:=Ad (by omega) (by omega)
 have e:ED w n=({w with now:=w.now+n},true):=by unfold ED;rw[if_pos (by omega)]
 simp -implicitDefEqProofs [h2,e,hw2]
theorem AHj (hC:EF (D 38)) (hI:Vf (D 114)):RL (Body D Awo):=by
 intro w n h
 simp -implicitDefEqProofs
 refine Aa (hC w h) ?_
 simp -implicitDefEqProofs
 refine Aa (hI _ _ _) ?_
 by_cases h1:NJ n 1 100
 rotate_left
 ·have e:ED w n=(w,false):=by unfold ED;rw[if_neg (by omega)]
  simp -implicitDefEqProofs [h1,e]
 have hw:IntKind.i64.wrap (10000-n)=10000-n:=Ad (by omega) (by omega)
 by_cases h3:w.now<0
 ·have e:ED w n=(w,false):=by unfold ED;rw[if_neg (by omega)]
  simp -implicitDefEqProofs [h1,hw,h3,e]
 by_cases h2:10000-n<w.now
 ·have e:ED w n=(w,false):=by unfold ED;rw[if_neg (by omega)]
  simp -implicitDefEqProofs [h1,hw,h3,h2,e]
 have hw2:IntKind.i64.wrap (w.now+n)=w.now+n:=Ad (by omega) (by omega)
 have e:ED w n=({w with now:=w.now+n},true):=by unfold ED;rw[if_pos (by omega)]
 simp -implicitDefEqProofs [h1,hw,h3,h2,e,hw2]
def Ob (w:World) (i:Nat):World:=match w.ends[i]? with
 | some x=> {w with ends:=w.ends.set i ⟨x.versions,x.tags,[],x.cls⟩}
 | none=>w
def DX (w:World) (i:Int):World×Bool:=
 if 0<=i then(match w.ends[i.toNat]? with
  | some x=>if x.path=[]then(w,false)else(Ob w i.toNat,true)
  | none=>(w,false))else(w,false)
abbrev Pv:Prop:=∀(w:World) (i:Int),Af w<=4194304->R [arg (Bu w),I i] [] (.tup [.agg (Bu (DX w i).1),B (DX w i).2]) []
theorem Acv {w:World} {i:Int} (h:¬NJ i 0 ((w.ends.length:Int)-1)):DX w i=(w,false):=by
 unfold DX
 by_cases h0:0<=i
 ·rw[if_pos h0,List.getElem?_eq_none (by omega)]
 ·rw[if_neg h0]
theorem Aez (hC:EF (D 22)) (hI:Vf (D 71)):Pv (Body D KD):=by
 intro w i h
 have hl:=FE h
 have hw:IntKind.i64.wrap ((w.ends.length:Int)-1)=(w.ends.length:Int)-1:=Ad (by omega) (by omega)
 simp -implicitDefEqProofs
 refine Aa (hC w h) ?_
 simp -implicitDefEqProofs [hw]
 refine Aa (hI _ _ _) ?_
 by_cases h1:NJ i 0 ((w.ends.length:Int)-1)
 rotate_left
 ·simp -implicitDefEqProofs [h1,Acv h1]
 obtain⟨j,rfl⟩:∃j:Nat,i=j:=⟨i.toNat,by omega⟩
 have hj:j<w.ends.length:=by omega
 by_cases h2:w.ends[j].path=[]
 ·have e:DX w j=(w,false):=by unfold DX;rw[if_pos (by omega)];simp[hj,h2]
  simp -implicitDefEqProofs [h1,h2,hj,e]
 ·have e:DX w j=({w with ends:=w.ends.set j ⟨w.ends[j].versions,w.ends[j].tags,[],w.ends[j].cls⟩},true):=by unfold DX;rw[if_pos (by omega)];simp[hj,h2,Ob]
  have hf:j*4+2<w.ends.length*4:=by omega
  have hs:(w.ends.flatMap Ah).set (j*4+2) (.sl 0 4 0 [])=(w.ends.set j ⟨w.ends[j].versions,w.ends[j].tags,[],w.ends[j].cls⟩).flatMap Ah:=VN hj [] rfl
  simp -implicitDefEqProofs [h1,h2,hj,e,hf,hs]
theorem AFX (hC:EF (D 38)) (hE:Au5 (D 117)):Pv (Body D Avw):=by
 intro w i h
 have hl:=FE h
 simp -implicitDefEqProofs
 refine Aa (hC w h) ?_
 simp -implicitDefEqProofs
 refine Aa (hE w i hl) ?_
 by_cases h1:NJ i 0 ((w.ends.length:Int)-1)
 rotate_left
 ·simp -implicitDefEqProofs [h1,Acv h1]
 obtain⟨j,rfl⟩:∃j:Nat,i=j:=⟨i.toNat,by omega⟩
 have hj:j<w.ends.length:=by omega
 by_cases h2:w.ends[j].path=[]
 ·have e:DX w j=(w,false):=by unfold DX;rw[if_pos (by omega)];simp[hj,h2]
  simp -implicitDefEqProofs [h1,h2,hj,e]
 ·have e:DX w j=({w with ends:=w.ends.set j ⟨w.ends[j].versions,w.ends[j].tags,[],w.ends[j].cls⟩},true):=by unfold DX;rw[if_pos (by omega)];simp[hj,h2,Ob]
  have hf:j*4+2<w.ends.length*4:=by omega
  have hs:(w.ends.flatMap Ah).set (j*4+2) (.sl 0 4 0 [])=(w.ends.set j ⟨w.ends[j].versions,w.ends[j].tags,[],w.ends[j].cls⟩).flatMap Ah:=VN hj [] rfl
  simp -implicitDefEqProofs [h1,h2,hj,e,hf,hs]
theorem AjV {α:Type} {f:α->Nat}:∀ {xs:List α} {j:Nat} (h:j<xs.length) (y:α),((xs.set j y).map f).sum+f xs[j]=(xs.map f).sum+f y
 | [],j,h,_=>by simp at h
 | x::r,0,h,y=>by simp;omega
 | x::r,j+1,h,y=>by
  have:=AjV (f:=f) (xs:=r) (j:=j) (by simpa using h) y
  simp at *
  omega
theorem size_set {α:Type} {f:α->Nat} {xs:List α} {j:Nat} (h:j<xs.length) (y:α):Cr f (xs.set j y)+f xs[j]=Cr f xs+f y:=by
 have:=AjV (f:=f) h y
 unfold Cr;simp only[List.length_set];omega
theorem LU {xs:List Int} {lo hi:Int} {j:Nat} (h:j<xs.length):allIn (xs.take (j+1)) lo hi=(allIn (xs.take j) lo hi&&decide (M6 xs[j] lo hi)):=by
 have e:xs.take (j+1)=xs.take j++ [xs[j]]:=by simp
 unfold allIn
 rw[e,List.all_append];simp
theorem Ahh {xs:List Int} {lo hi:Int} {j:Nat} (h:j<xs.length) (hn:¬M6 xs[j] lo hi):allIn xs lo hi=false:=by
 unfold allIn
 rw[List.all_eq_false]
 exact⟨xs[j],List.getElem_mem h,by simp[hn]⟩
theorem Wt {xs:List Int} {lo hi:Int} {j:Nat} (h:xs.length<=j) (ha:allIn (xs.take j) lo hi=true):allIn xs lo hi=true:=by rwa [List.take_of_length_le h]at ha
abbrev RN:Prop:=∀xs:List Int,xs.length<=maxLen->R [.sl 1 1 xs.length (ints xs)] [] (B (allIn xs 0 255)) []
theorem Am2 (hI:Vf (D 71)):RN (Body D OW):=by
 intro xs hl
 unfold maxLen at hl
 simp -implicitDefEqProofs
 refine Ag (fun k s=>∃j,j+k=xs.length/\allIn (xs.take j) 0 255=true/\s=⟨[.sl 1 1 xs.length (ints xs),.undef,.sc (.int .i64 j),.undef,.undef],[]⟩) ?_ xs.length _ ⟨0,by simp,by simp[allIn],by simp⟩
 intro k s ⟨j,hj,hp,hs⟩
 subst hs
 by_cases hjn:j<xs.length
 ·have hw:=Cv (j:=j) (by omega)
  simp -implicitDefEqProofs [hjn]
  refine Aa (hI _ _ _) ?_
  by_cases h1:M6 xs[j] 0 255
  ·simp -implicitDefEqProofs [h1]
   exact⟨k-1,by omega,j+1,by omega,by rw[LU hjn,hp];simp[h1],by simp[hw]⟩
  ·simp -implicitDefEqProofs [h1,Ahh hjn h1]
 ·simp -implicitDefEqProofs [hjn,Wt (by omega) hp]
def IL (b:EG):Bool:=decide (M6 b.limit 0 9)&&decide (b.drops.length<=6)&&decide (b.strips.length<=6)&&allIn b.drops 0 255&&allIn b.strips 0 255
abbrev XD:Prop:=∀b:EG,Kh b->R [arg (DT b)] [] (B (IL b)) []
theorem AnQ (hI:Vf (D 71)) (hB:RN (D 217)):XD (Body D QE):=by
 intro b hl
 simp -implicitDefEqProofs
 refine Aa (hI _ _ _) ?_
 by_cases h1:M6 b.limit 0 9
 rotate_left
 ·simp -implicitDefEqProofs [h1,IL]
 by_cases h2:b.drops.length<=6
 rotate_left
 ·have h2':¬(b.drops.length:Int)<=6:=by omega
  simp -implicitDefEqProofs [h1,h2',h2,IL]
 have h2':(b.drops.length:Int)<=6:=by omega
 by_cases h3:b.strips.length<=6
 rotate_left
 ·have h3':¬(b.strips.length:Int)<=6:=by omega
  simp -implicitDefEqProofs [h1,h2',h3',h3,IL]
 have h3':(b.strips.length:Int)<=6:=by omega
 simp -implicitDefEqProofs [h1,h2',h3']
 refine Aa (hB _ hl.1) ?_
 by_cases h4:allIn b.drops 0 255=true
 rotate_left
 ·simp -implicitDefEqProofs [h4,IL]
 simp -implicitDefEqProofs [h4]
 refine Aa (hB _ hl.2) ?_
 simp -implicitDefEqProofs [IL,h1,h2,h3,h4]
theorem AJ4 (hI:Vf (D 114)) (hB:AsS (D 233)):XD (Body D Ayb):=by
 intro b hl
 simp -implicitDefEqProofs
 refine Aa (hI _ _ _) ?_
 by_cases h1:M6 b.limit 0 9
 rotate_left
 ·simp -implicitDefEqProofs [h1,IL]
 by_cases h2:b.drops.length<=6
 rotate_left
 ·have h2':¬(b.drops.length:Int)<=6:=by omega
  simp -implicitDefEqProofs [h1,h2',h2,IL]
 have h2':(b.drops.length:Int)<=6:=by omega
 by_cases h3:b.strips.length<=6
 rotate_left
 ·have h3':¬(b.strips.length:Int)<=6:=by omega
  simp -implicitDefEqProofs [h1,h2',h3',h3,IL]
 have h3':(b.strips.length:Int)<=6:=by omega
 simp -implicitDefEqProofs [h1,h2',h3']
 refine Aa (hB _ _ _ hl.1) ?_
 by_cases h4:allIn b.drops 0 255=true
 rotate_left
 ·simp -implicitDefEqProofs [h4,IL]
 simp -implicitDefEqProofs [h4]
 refine Aa (hB _ _ _ hl.2) ?_
 simp -implicitDefEqProofs [IL,h1,h2,h3,h4]
def Fg (w:World) (i:Int) (b:EG):World×Bool:=
 if 0<=i then(match w.ends[i.toNat]? with
  | some x=>if IL b=true/\x.path.length<4 then({w with ends:=w.ends.set i.toNat ⟨x.versions,x.tags,x.path++ [b],x.cls⟩},true)else(w,false)
  | none=>(w,false))else(w,false)
abbrev UJ:Prop:=∀(w:World) (i:Int) (b:EG),Af w<=4194304->Gm b<=4194304->R [arg (Bu w),I i,arg (DT b)] [] (.tup [.agg (Bu (Fg w i b).1),B (Fg w i b).2]) []
theorem Ahl {w:World} {i:Int} {b:EG} (h:¬NJ i 0 ((w.ends.length:Int)-1)):Fg w i b=(w,false):=by
 unfold Fg
 by_cases h0:0<=i
 ·rw[if_pos h0,List.getElem?_eq_none (by omega)]
 ·rw[if_neg h0]
theorem AmP {b:EG} (h:Gm b<=4194304):Kh b:=by unfold Gm at h;unfold Kh Nr maxLen;omega
theorem AiB (hC:EF (D 22)) (hI:Vf (D 71)) (hB:XD (D 152)):UJ (Body D Ni):=by
 intro w i b h hb
 have hl:=FE h
 have hw:IntKind.i64.wrap ((w.ends.length:Int)-1)=(w.ends.length:Int)-1:=Ad (by omega) (by omega)
 simp -implicitDefEqProofs
 refine Aa (hC w h) ?_
 simp -implicitDefEqProofs [hw]
 refine Aa (hI _ _ _) ?_
 by_cases h1:NJ i 0 ((w.ends.length:Int)-1)
 rotate_left
 ·simp -implicitDefEqProofs [h1,Ahl h1]
 obtain⟨j,rfl⟩:∃j:Nat,i=j:=⟨i.toNat,by omega⟩
 have hj:j<w.ends.length:=by omega
 simp -implicitDefEqProofs [h1]
 refine Aa (hB b (AmP hb)) ?_
 by_cases h2:IL b=true
 rotate_left
 ·have e:Fg w j b=(w,false):=by unfold Fg;rw[if_pos (by omega)];simp[hj,h2]
  simp -implicitDefEqProofs [h2,e]
 by_cases h3:w.ends[j].path.length<4
 rotate_left
 ·have e:Fg w j b=(w,false):=by unfold Fg;rw[if_pos (by omega)];simp[hj,h3]
  have h3':(4:Int)<=w.ends[j].path.length:=by omega
  simp -implicitDefEqProofs [h2,hj,h3',e]
 have e:Fg w j b=({w with ends:=w.ends.set j ⟨w.ends[j].versions,w.ends[j].tags,w.ends[j].path++ [b],w.ends[j].cls⟩},true):=by unfold Fg;rw[if_pos (by omega)];simp[hj,h2,h3]
 have h3':¬(4:Int)<=w.ends[j].path.length:=by omega
 have hz:Gm b=b.drops.length+b.strips.length:=rfl
 have b1:b.drops.length*8<=1099511627776:=by omega
 have b2:b.strips.length*8<=1099511627776:=by omega
 have b3:(w.ends[j].path.length+1)*64<=1099511627776:=by omega
 have hf:j*4+2<w.ends.length*4:=by omega
 simp -implicitDefEqProofs [h2,hj,h3',e,hf,b1,b2,b3]
 have hs:=VN hj (w.ends[j].path++ [b]) (n:=w.ends[j].path.length+1) (by simp)
 simpa[List.flatMap_append]using hs
theorem AHZ (hC:EF (D 38)) (hE:Au5 (D 117)) (hB:XD (D 183)) (hP:AAf (D 172)):UJ (Body D Aw0):=by
 intro w i b h hb
 have hl:=FE h
 simp -implicitDefEqProofs
 refine Aa (hC w h) ?_
 simp -implicitDefEqProofs
 refine Aa (hE w i hl) ?_
 by_cases h1:NJ i 0 ((w.ends.length:Int)-1)
 rotate_left
 ·simp -implicitDefEqProofs [h1,Ahl h1]
 obtain⟨j,rfl⟩:∃j:Nat,i=j:=⟨i.toNat,by omega⟩
 have hj:j<w.ends.length:=by omega
 simp -implicitDefEqProofs [h1]
 refine Aa (hB b (AmP hb)) ?_
 by_cases h2:IL b=true
 rotate_left
 ·have e:Fg w j b=(w,false):=by unfold Fg;rw[if_pos (by omega)];simp[hj,h2]
  simp -implicitDefEqProofs [h2,e]
 by_cases h3:w.ends[j].path.length<4
 rotate_left
 ·have e:Fg w j b=(w,false):=by unfold Fg;rw[if_pos (by omega)];simp[hj,h3]
  have h3':(4:Int)<=w.ends[j].path.length:=by omega
  simp -implicitDefEqProofs [h2,hj,h3',e]
 have e:Fg w j b=({w with ends:=w.ends.set j ⟨w.ends[j].versions,w.ends[j].tags,w.ends[j].path++ [b],w.ends[j].cls⟩},true):=by unfold Fg;rw[if_pos (by omega)];simp[hj,h2,h3]
 have h3':¬(4:Int)<=w.ends[j].path.length:=by omega
 have hz:Gm b=b.drops.length+b.strips.length:=rfl
 have b3:(w.ends[j].path.length+1)*64<=1099511627776:=by omega
 have hf:j*4+2<w.ends.length*4:=by omega
 simp -implicitDefEqProofs [h2,hj,h3',e,hf]
 have hb6:Gm b<=12:=by
  have:=h2
  simp only[IL,Bool.and_eq_true,decide_eq_true_eq]at this
  unfold Gm;omega
 refine Aa (hP [b] (by unfold Cr;simp;omega)) ?_
 simp -implicitDefEqProofs [h2,hj,h3',e,hf,b3]
 have hs:=VN hj (w.ends[j].path++ [b]) (n:=w.ends[j].path.length+1) (by simp)
 simpa[List.flatMap_append]using hs
abbrev As8 (D:Dn) (R:Rel):Prop:=∀(xs:List Ai) (g:Nat) (caps:List V) (p:Ai->Bool),xs.length<=maxLen->Atz caps->(∀(j:Nat) (h:j<xs.length),D g (arg (Ah xs[j])::caps) [] (B (p xs[j])) [])->R [.sl 1 4 xs.length (xs.flatMap Ah),.fn g caps] [] (I (Rc p xs 0)) []
theorem Azb:As8 D (Body D Aft):=by
 intro xs g caps p hl hc hp
 unfold maxLen at hl
 simp -implicitDefEqProofs
 refine Ag (fun k s=>∃j,j+k=xs.length/\Rc p xs 0=Rc p (xs.drop j) j/\s=⟨[.sl 1 4 xs.length (xs.flatMap Ah),.fn g caps,.undef,.undef,.sc (.int .i64 xs.length),.sc (.int .i64 j),.undef,.undef],[]⟩) ?_ xs.length _ ⟨0,by simp,by simp,by simp⟩
 intro k s ⟨j,hj,hi,hs⟩
 subst hs
 by_cases hjn:j<xs.length
 ·have hw:=Cv (j:=j) (by omega)
  rw[AkE hjn]at hi
  simp -implicitDefEqProofs [hjn,hc.1,hc.2.1]
  refine Aa (hp j hjn) ?_
  by_cases he:p xs[j]=true
  ·rw[if_pos he]at hi
   simp -implicitDefEqProofs [he,hi]
  ·rw[if_neg he]at hi
   simp -implicitDefEqProofs [he]
   exact⟨k-1,by omega,j+1,by omega,by simpa using hi,by simp[hw]⟩
 ·rw[Am6 (by omega)]at hi
  simp -implicitDefEqProofs [hjn,hi]
abbrev AsI (D:Dn) (R:Rel):Prop:=∀(xs:List Ai) (g:Nat) (caps:List V) (p:Ai->Bool),xs.length<=maxLen->Atz caps->(∀(j:Nat) (h:j<xs.length),D g (arg (Ah xs[j])::caps) [] (B (p xs[j])) [])->R [.sl 1 4 xs.length (xs.flatMap Ah),.fn g caps] [] (B (xs.any p)) []
theorem AxD (hI:As8 D (D 393)):AsI D (Body D Afs):=by
 intro xs g caps p hl hc hp
 simp -implicitDefEqProofs [hc.2.2]
 refine Aa (hI xs g caps p hl hc hp) ?_
 have e:decide (0<=Rc p xs 0)=xs.any p:=by rw[Bool.eq_iff_iff];simp only[decide_eq_true_eq];rw[AjA (by omega)]
 simp -implicitDefEqProofs [e]
abbrev Att (D:Dn) (R:Rel):Prop:=∀(xs:List Eo) (g:Nat) (caps:List V) (p:Eo->Bool),xs.length<=maxLen->Atz caps->(∀(j:Nat) (h:j<xs.length),D g (arg (Az xs[j])::caps) [] (B (p xs[j])) [])->R [.sl 1 8 xs.length (xs.flatMap Az),.fn g caps] [] (I (Rc p xs 0)) []
theorem AAt:Att D (Body D Ajb):=by
 intro xs g caps p hl hc hp
 unfold maxLen at hl
 simp -implicitDefEqProofs
 refine Ag (fun k s=>∃j,j+k=xs.length/\Rc p xs 0=Rc p (xs.drop j) j/\s=⟨[.sl 1 8 xs.length (xs.flatMap Az),.fn g caps,.undef,.undef,.sc (.int .i64 xs.length),.sc (.int .i64 j),.undef,.undef],[]⟩) ?_ xs.length _ ⟨0,by simp,by simp,by simp⟩
 intro k s ⟨j,hj,hi,hs⟩
 subst hs
 by_cases hjn:j<xs.length
 ·have hw:=Cv (j:=j) (by omega)
  rw[AkE hjn]at hi
  simp -implicitDefEqProofs [hjn,hc.1,hc.2.1]
  refine Aa (hp j hjn) ?_
  by_cases he:p xs[j]=true
  ·rw[if_pos he]at hi
   simp -implicitDefEqProofs [he,hi]
  ·rw[if_neg he]at hi
   simp -implicitDefEqProofs [he]
   exact⟨k-1,by omega,j+1,by omega,by simpa using hi,by simp[hw]⟩
 ·rw[Am6 (by omega)]at hi
  simp -implicitDefEqProofs [hjn,hi]
abbrev As0 (D:Dn) (R:Rel):Prop:=∀(xs:List Eo) (g:Nat) (caps:List V) (p:Eo->Bool),xs.length<=maxLen->Atz caps->(∀(j:Nat) (h:j<xs.length),D g (arg (Az xs[j])::caps) [] (B (p xs[j])) [])->R [.sl 1 8 xs.length (xs.flatMap Az),.fn g caps] [] (B (xs.any p)) []
theorem Ayd (hI:Att D (D 403)):As0 D (Body D Afv):=by
 intro xs g caps p hl hc hp
 simp -implicitDefEqProofs [hc.2.2]
 refine Aa (hI xs g caps p hl hc hp) ?_
 have e:decide (0<=Rc p xs 0)=xs.any p:=by rw[Bool.eq_iff_iff];simp only[decide_eq_true_eq];rw[AjA (by omega)]
 simp -implicitDefEqProofs [e]
abbrev Au4 (D:Dn) (R:Rel):Prop:=∀(xs:List EG) (g:Nat) (caps:List V) (p:EG->Bool),xs.length<=maxLen->Atz caps->(∀(j:Nat) (h:j<xs.length),D g (arg (DT xs[j])::caps) [] (B (p xs[j])) [])->R [.sl 1 4 xs.length (xs.flatMap DT),.fn g caps] [] (I (Rc p xs 0)) []
theorem ADz:Au4 D (Body D AlU):=by
 intro xs g caps p hl hc hp
 unfold maxLen at hl
 simp -implicitDefEqProofs
 refine Ag (fun k s=>∃j,j+k=xs.length/\Rc p xs 0=Rc p (xs.drop j) j/\s=⟨[.sl 1 4 xs.length (xs.flatMap DT),.fn g caps,.undef,.undef,.sc (.int .i64 xs.length),.sc (.int .i64 j),.undef,.undef],[]⟩) ?_ xs.length _ ⟨0,by simp,by simp,by simp⟩
 intro k s ⟨j,hj,hi,hs⟩
 subst hs
 by_cases hjn:j<xs.length
 ·have hw:=Cv (j:=j) (by omega)
  rw[AkE hjn]at hi
  simp -implicitDefEqProofs [hjn,hc.1,hc.2.1]
  refine Aa (hp j hjn) ?_
  by_cases he:p xs[j]=true
  ·rw[if_pos he]at hi
   simp -implicitDefEqProofs [he,hi]
  ·rw[if_neg he]at hi
   simp -implicitDefEqProofs [he]
   exact⟨k-1,by omega,j+1,by omega,by simpa using hi,by simp[hw]⟩
 ·rw[Am6 (by omega)]at hi
  simp -implicitDefEqProofs [hjn,hi]
abbrev As3 (D:Dn) (R:Rel):Prop:=∀(xs:List EG) (g:Nat) (caps:List V) (p:EG->Bool),xs.length<=maxLen->Atz caps->(∀(j:Nat) (h:j<xs.length),D g (arg (DT xs[j])::caps) [] (B (p xs[j])) [])->R [.sl 1 4 xs.length (xs.flatMap DT),.fn g caps] [] (B (xs.any p)) []
theorem AAs (hI:Au4 D (D 406)):As3 D (Body D AjG):=by
 intro xs g caps p hl hc hp
 simp -implicitDefEqProofs [hc.2.2]
 refine Aa (hI xs g caps p hl hc hp) ?_
 have e:decide (0<=Rc p xs 0)=xs.any p:=by rw[Bool.eq_iff_iff];simp only[decide_eq_true_eq];rw[AjA (by omega)]
 simp -implicitDefEqProofs [e]
end Go.Eng.T
