/- Own work: part 19 of the proof of FnConsole. -/
import Derived.Test.YtogmkdgkgfhhoaaGreatDoorCEngAL
import Derived.Test.YtogmkdgkgfhhoaaGreatDoorCP11
import Derived.Test.YtogmkdgkgfhhoaaGreatDoorCP12
import Derived.Test.YtogmkdgkgfhhoaaGreatDoorCP13
import Derived.Test.YtogmkdgkgfhhoaaGreatDoorCP14
import Derived.Test.YtogmkdgkgfhhoaaGreatDoorCP15
import Derived.Test.YtogmkdgkgfhhoaaGreatDoorCP16
import Derived.Test.YtogmkdgkgfhhoaaGreatDoorCP18
import Derived.Lib.ItoaNum
import Derived.Lib.Join
set_option linter.unusedSimpArgs false
set_option linter.unusedVariables false
namespace Go.Eng.T
set_option maxRecDepth 20000
set_option maxHeartbeats 2000000
def AiO (e:Event):Prop:=1<=e.kind/\e.kind<=8/\0<=e.n/\(e.n<=6/\(e.kind=8->e.n<=3))/\X5 e.box
theorem Aoy {e:Event} (h:AiO e):Hy e<=8:=by
 have h1:=h.2.2.2.2.2.1
 have h2:=h.2.2.2.2.2.2
 unfold Hy Gm
 omega
theorem AfG:∀(l:List Event),(∀e,e∈l->AiO e)->Cr Hy l<=9*l.length
 | [],_=>by simp[Cr]
 | a::r,h=>by
  have h1:=Aoy (h a (by simp))
  have h2:=AfG r (fun e he=>h e (by simp[he]))
  simp only[Cr,List.length_cons,List.map_cons,List.sum_cons]at *
  omega
theorem Lp:X5 ⟨0,[],[],false⟩:=by
 have hn:=O5 (Aac 200) (show 0<=4 by omega)
 exact WJ (by dsimp only;omega) hn hn
variable (R:Rel)
abbrev Sc:Prop:=∀c:QM,Dw c->JA R [] c AiO (fun e=> .agg (BJ e))
variable (D:Dn)
theorem AiD (hB:CB (D 478)) (hX:Oq (D 494)):Sc (Body D Il):=by
 intro c hc
 refine EJ (fun Q hQ=> ?_)
 simp -implicitDefEqProofs
 obtain⟨x,c1,hx,hc1,px⟩:=hB c 12 hc (by omega)
 simp -implicitDefEqProofs [AL,ints]at px
 refine Aa (px) ?_
 by_cases g0:x=0
 ·simp -implicitDefEqProofs [g0,Cu,Ab]
  exact hQ ⟨2,0,⟨0,[],[],false⟩⟩ c1 ⟨by dsimp only;omega,by dsimp only;omega,by dsimp only;omega,by dsimp only;omega,Lp⟩ hc1
 by_cases g1:x=1
 ·simp -implicitDefEqProofs [g1,Cu,Ab]
  exact hQ ⟨3,0,⟨0,[],[],false⟩⟩ c1 ⟨by dsimp only;omega,by dsimp only;omega,by dsimp only;omega,by dsimp only;omega,Lp⟩ hc1
 by_cases g2:x=2
 ·simp -implicitDefEqProofs [g2,Cu,Ab]
  exact hQ ⟨3,0,⟨0,[],[],false⟩⟩ c1 ⟨by dsimp only;omega,by dsimp only;omega,by dsimp only;omega,by dsimp only;omega,Lp⟩ hc1
 by_cases g3:x=3
 ·simp -implicitDefEqProofs [g3]
  obtain⟨y,c2,hy,hc2,py⟩:=hB c1 5 hc1 (by omega)
  simp -implicitDefEqProofs [AL,ints]at py
  refine Aa (py) ?_
  have hyn:=hy.2.2 (by omega)
  have w1:IntKind.i64.wrap (1+y)=1+y:=Ad (by omega) (by omega)
  simp -implicitDefEqProofs [w1,Cu,Ab]
  exact hQ ⟨4,1+y,⟨0,[],[],false⟩⟩ c2 ⟨by dsimp only;omega,by dsimp only;omega,by dsimp only;omega,by dsimp only;omega,Lp⟩ hc2
 by_cases g4:x=4
 ·simp -implicitDefEqProofs [g4]
  obtain⟨y,c2,hy,hc2,py⟩:=hB c1 6 hc1 (by omega)
  simp -implicitDefEqProofs [AL,ints]at py
  refine Aa (py) ?_
  have hyn:=hy.2.2 (by omega)
  have w1:IntKind.i64.wrap (1+y)=1+y:=Ad (by omega) (by omega)
  simp -implicitDefEqProofs [w1,Cu,Ab]
  exact hQ ⟨5,1+y,⟨0,[],[],false⟩⟩ c2 ⟨by dsimp only;omega,by dsimp only;omega,by dsimp only;omega,by dsimp only;omega,Lp⟩ hc2
 by_cases g5:x=5
 ·simp -implicitDefEqProofs [g5]
  obtain⟨y,c2,hy,hc2,py⟩:=hB c1 5 hc1 (by omega)
  simp -implicitDefEqProofs [AL,ints]at py
  refine Aa (py) ?_
  have hyn:=hy.2.2 (by omega)
  simp -implicitDefEqProofs
  obtain⟨b,c3,hb,hc3,pb⟩:=hX c2 hc2
  simp -implicitDefEqProofs [AL,ints]at pb
  refine Aa (pb) ?_
  simp -implicitDefEqProofs [Cu,Ab]
  exact hQ ⟨6,y,b⟩ c3 ⟨by dsimp only;omega,by dsimp only;omega,by dsimp only;omega,by dsimp only;omega,hb⟩ hc3
 by_cases g6:x=6
 ·simp -implicitDefEqProofs [g6]
  obtain⟨y,c2,hy,hc2,py⟩:=hB c1 5 hc1 (by omega)
  simp -implicitDefEqProofs [AL,ints]at py
  refine Aa (py) ?_
  have hyn:=hy.2.2 (by omega)
  simp -implicitDefEqProofs [Cu,Ab]
  exact hQ ⟨7,y,⟨0,[],[],false⟩⟩ c2 ⟨by dsimp only;omega,by dsimp only;omega,by dsimp only;omega,by dsimp only;omega,Lp⟩ hc2
 by_cases g7:x=7
 ·simp -implicitDefEqProofs [g7]
  obtain⟨y,c2,hy,hc2,py⟩:=hB c1 3 hc1 (by omega)
  simp -implicitDefEqProofs [AL,ints]at py
  refine Aa (py) ?_
  have hyn:=hy.2.2 (by omega)
  have w1:IntKind.i64.wrap (1+y)=1+y:=Ad (by omega) (by omega)
  simp -implicitDefEqProofs [w1,Cu,Ab]
  exact hQ ⟨8,1+y,⟨0,[],[],false⟩⟩ c2 ⟨by dsimp only;omega,by dsimp only;omega,by dsimp only;omega,by dsimp only;omega,Lp⟩ hc2
 ·simp -implicitDefEqProofs [g0,g1,g2,g3,g4,g5,g6,g7]
  obtain⟨y,c2,hy,hc2,py⟩:=hB c1 5 hc1 (by omega)
  simp -implicitDefEqProofs [AL,ints]at py
  refine Aa (py) ?_
  have hyn:=hy.2.2 (by omega)
  simp -implicitDefEqProofs [Cu,Ab]
  exact hQ ⟨1,y,⟨0,[],[],false⟩⟩ c2 ⟨by dsimp only;omega,by dsimp only;omega,by dsimp only;omega,by dsimp only;omega,Lp⟩ hc2
abbrev O9:Prop:=∀(c:QM) (m:Int),Dw c->m<=100->JA R [I m] c (fun l:List Event=>(∀e,e∈l->AiO e)/\0<l.length/\(l.length:Int)<=1+(if 0<m then m-1 else 0)) (fun l=> .sl 0 6 l.length (l.flatMap BJ))
theorem Af0 (hB:CB (D 478)) (hE:Sc (D 492)):O9 (Body D Hq):=by
 intro c m hc hm
 refine EJ (fun Q hQ=> ?_)
 simp -implicitDefEqProofs
 obtain⟨x,c1,hx,hc1,px⟩:=hB c m hc (by omega)
 simp -implicitDefEqProofs [AL,ints]at px
 refine Aa (px) ?_
 have hxm:0<=x/\x<=(if 0<m then m-1 else 0):=by
  refine⟨hx.1,?_⟩
  by_cases g:0<m
  ·have:=hx.2.2 g
   rw[if_pos g];omega
  ·have:=hx.2.1 (by omega)
   rw[if_neg g];omega
 have hx100:x<=100:=by
  have:=hxm.2
  split at this<;>omega
 obtain⟨n,rfl⟩:∃n:Nat,x=n:=⟨x.toNat,by omega⟩
 simp -implicitDefEqProofs
 obtain⟨LI,hLI⟩:∃LI:Nat->St->Prop,LI=fun k s=>∃cd l o1 o2 o3 o4 o5,k<=n/\(l:List Event).length+k=n+1/\(∀e,e∈l->AiO e)/\Dw cd/\s=⟨[.ptr 0 0,.undef,.undef,.arr 6,I k,.undef],[.var (AL cd),o1,o2,o3,o4,o5,.arr 6 0 l.length (l.flatMap BJ)]⟩:=⟨_,rfl⟩
 refine Ag LI ?_ n _ (by
  rw[hLI]
  exact⟨c1,[⟨2,0,⟨0,[],[],false⟩⟩],.free,.free,.free,.free,.free,by omega,by simp;omega,fun e he=>by
   rw[List.mem_singleton.1 he]
   exact⟨by dsimp only;omega,by dsimp only;omega,by dsimp only;omega,by dsimp only;omega,Lp⟩,hc1,by simp[AL,BJ,ints]⟩)
 intro k s hs
 rw[hLI]at hs
 obtain⟨cd,l,o1,o2,o3,o4,o5,hkn,hlk,hl,hcd,hs⟩:=hs
 subst hs
 by_cases hk:0<k
 ·have hwk:IntKind.i64.wrap ((k:Int)-1)=(k-1:Nat):=by rw[Ad (by omega) (by omega)];omega
  have hb1:(l.length+1)*80<=1099511627776:=by omega
  simp -implicitDefEqProofs [hk]
  obtain⟨e,c5,he,hc5,pe⟩:=hE cd hcd
  simp -implicitDefEqProofs [AL,ints]at pe
  refine Aa (pe) ?_
  simp -implicitDefEqProofs [hb1,hwk]
  refine⟨k-1,by omega,?_⟩
  rw[hLI]
  exact⟨c5,l++ [e],_,_,_,_,_,by omega,by simp;omega,fun x hx=>by
   rcases List.mem_append.1 hx with hx | hx
   ·exact hl x hx
   ·rw[List.mem_singleton.1 hx];exact he,hc5,by simp[AL,BJ,ints];exact⟨rfl,rfl,rfl,rfl,rfl⟩⟩
 ·have hk0:k=0:=by omega
  subst hk0
  simp -implicitDefEqProofs [Cu,Ab]
  exact hQ l cd ⟨hl,by omega,by have:=hxm.2;omega⟩ hcd
def AB5 (i:Nat):Ai:=⟨[1,2],[1,40],if i=1 then [⟨2,[],[],false⟩]else if i=2 then [⟨0,[],[],true⟩]else [],(i:Int).tmod 6⟩
def AqH (n:Int):List Ai:=if 1<=n/\n<=6 then(List.range n.toNat).map AB5 else []
theorem AGx (j:Nat):(List.range j).map AB5++ [AB5 j]=(List.range (j+1)).map AB5:=by rw[List.range_succ,List.map_append];rfl
abbrev Aud:Prop:=∀n:Int,R [I n] [] (.sl 0 4 (AqH n).length ((AqH n).flatMap Ah)) []
theorem AD0 (hI:Vf (D 114)):Aud (Body D Auk):=by
 intro n
 simp -implicitDefEqProofs
 refine Aa (hI _ _ _) ?_
 by_cases h:1<=n/\n<=6
 rotate_left
 ·have he:AqH n=[]:=by unfold AqH;rw[if_neg h]
  simp -implicitDefEqProofs [h,he]
 obtain⟨N,rfl⟩:∃N:Nat,n=N:=⟨n.toNat,by omega⟩
 have hE:AqH N=(List.range N).map AB5:=by unfold AqH;rw[if_pos h];simp
 rw[hE]
 simp -implicitDefEqProofs [h]
 refine Ag (fun k s=>∃j o1 o2 o3 o4 o5 o6 o7 o8,j+k=N/\s=⟨[.undef,.undef,.arr 9,.undef,.undef,.undef,.sc (.int .i64 N),.sc (.int .i64 j),.undef,.undef,.undef,.undef],[.free,o1,o2,o3,o4,o5,o6,o7,o8,.arr 4 0 j (((List.range j).map AB5).flatMap Ah)]⟩) ?_ N _ ⟨0,.free,.free,.free,.free,.free,.free,.free,.free,by simp,by simp⟩
 intro k s ⟨j,o1,o2,o3,o4,o5,o6,o7,o8,hj,hs⟩
 subst hs
 by_cases hjn:j<N
 ·have hw:=Cv (j:=j) (by omega)
  have hb:(j+1)*80<=1099511627776:=by omega
  have hst:=AGx j
  by_cases j1:j=1
  ·subst j1
   have h1':(1:Int)<(N:Int):=by omega
   simp -implicitDefEqProofs [hjn,h1',hb]
   exact⟨k-1,by omega,2,by omega,Ad (by omega) (by omega),rfl,rfl⟩
  ·by_cases j2:j=2
   ·subst j2
    have h1':(2:Int)<(N:Int):=by omega
    simp -implicitDefEqProofs [hjn,h1',hb]
    exact⟨k-1,by omega,3,by omega,Ad (by omega) (by omega),rfl,rfl⟩
   ·have e1:¬(j:Int)=1:=by omega
    have e2:¬(j:Int)=2:=by omega
    have hx:Ah (AB5 j)=[.sl 0 1 2 [I 1,I 2],.sl 0 1 2 [I 1,I 40],.sl 0 4 0 [],I ((j:Int).tmod 6)]:=by unfold AB5;rw[if_neg j1,if_neg j2];rfl
    simp -implicitDefEqProofs [hjn,hb,e1,e2]
    exact⟨k-1,by omega,j+1,by omega,by simp[hw],rfl,by rw[<-hst,List.flatMap_append,List.flatMap_cons,List.flatMap_nil,List.append_nil,hx]⟩
 ·obtain rfl:j=N:=by omega
  simp -implicitDefEqProofs [hjn]
set_option maxHeartbeats 2000000
def apart (w:World) (j:Nat):Bool:=match w.ends[j]? with
 | some e=>AfS e.path&&(!(KI w j).deal.ok|| !decide ((KI w j).deal.version=AJ w.server e.versions))
 | none=>false
def AtY (w:World):Bool:=FY w.server (Fh w)&&Oj (fun j=> !apart w j) w.ends.length
theorem AJT {w:World} {j:Nat} (h:j<w.ends.length) (ha:apart w j=true):AtY w=false:=by
 unfold AtY
 rw[AhE (q:=fun j=> !apart w j) h (by simp[ha])]
 simp
abbrev AwB:Prop:=∀w:World,Af w<=4194304->R [arg (Bu w)] [] (B (AtY w)) []
theorem AEQ (hD:ZL (D 173)) (hK:AvU (D 246)) (hB:FQ (D 190)) (hL:Q8 (D 123)) (hA:RP (D 234)):AwB (Body D AuG):=by
 intro w hsz
 have he:=FE hsz
 have hws:=Od hsz
 simp -implicitDefEqProofs
 refine Aa (hL w hsz) ?_
 simp -implicitDefEqProofs
 refine Aa (hA w.server (Fh w) hws.1 (Ahj hsz)) ?_
 by_cases g0:FY w.server (Fh w)=true
 rotate_left
 ·simp -implicitDefEqProofs [AtY,g0]
 simp -implicitDefEqProofs [g0]
 refine Ag (fun k s=>∃j o2 o3 o4 o5,j+k=w.ends.length/\Oj (fun j=> !apart w j) j=true/\s=⟨[.undef,.ptr 0 0,.undef,.undef,.undef,.undef,.undef,.sl 1 4 w.ends.length (w.ends.flatMap Ah),I w.ends.length,I j,.undef,.undef],[.var ((Bu w).map (AO 1)),.arr 1 0 (Fh w).length (I8 (Fh w)),o2,o3,o4,o5]⟩) ?_ (w.ends.length) _ ⟨0,.free,.free,.free,.free,by simp,by simp,by simp⟩
 intro k s ⟨j,o2,o3,o4,o5,hj,hp,hs⟩
 subst hs
 by_cases hjn:j<w.ends.length
 ·have hw:=Cv (j:=j) (by omega)
  have hst:=LY (fun j=> !apart w j) j
  have hes:=AdH hsz hjn
  simp -implicitDefEqProofs [hjn]
  refine Aa (hD w j hsz) ?_
  generalize hd:KI w j=d
  have hap:apart w j=(AfS w.ends[j].path&&(!d.deal.ok|| !decide (d.deal.version=AJ w.server w.ends[j].versions))):=by unfold apart;simp[hjn,hd]
  simp -implicitDefEqProofs
  refine Aa (hK w.ends[j].path (AhO hes).2.2) ?_
  by_cases g1:AfS w.ends[j].path=true
  rotate_left
  ·have ha:apart w j=false:=by rw[hap];simp[g1]
   rw[ha]at hst
   simp -implicitDefEqProofs [g1,hjn]
   exact⟨k-1,by omega,j+1,by omega,by rw[hst,hp];rfl,by simp[hw]⟩
  by_cases g2:d.deal.ok=true
  rotate_left
  ·have ha:apart w j=true:=by rw[hap];simp[g1,g2]
   simp -implicitDefEqProofs [g1,g2,hjn,AJT hjn ha]
  simp -implicitDefEqProofs [g1,g2,hjn]
  refine Aa (hB w.server w.ends[j].versions hws.1 (Adq hes)) ?_
  generalize AJ w.server w.ends[j].versions=b at hap
  by_cases g3:d.deal.version=b
  ·have ha:apart w j=false:=by rw[hap];simp[g1,g2,g3]
   rw[ha]at hst
   simp -implicitDefEqProofs [g1,g2,g3,hjn]
   exact⟨k-1,by omega,j+1,by omega,by rw[hst,hp];rfl,by simp[hw]⟩
  ·have ha:apart w j=true:=by rw[hap];simp[g1,g2,g3]
   simp -implicitDefEqProofs [g1,g2,g3,hjn,AJT hjn ha]
 ·obtain rfl:j=w.ends.length:=by omega
  simp -implicitDefEqProofs [AtY,g0,hp]
def Atx (w:World):ByteArray:=
 if Ap w=true then(if AyU w=true then(if AtY w=true then(if w.hurt=cntF (Avc w) w.log then(if w.log.any Ayi=true then⟨#[115,111,98,101,114]⟩else⟨#[]⟩)else⟨#[99,111,117,110,116]⟩)else⟨#[116,111,103,101,116,104,101,114]⟩)else⟨#[98,111,117,110,100]⟩)else⟨#[119,111,114,108,100]⟩
abbrev AA0:Prop:=∀w:World,Af w<=4194304->R [arg (Bu w)] [] (S (Atx w)) []
theorem AH7 (hW:U3 (D 184)) (hB:AxJ (D 200)) (hT:AwB (D 201)) (hC:AxG (D 202)) (hS:AAr (D 203)):AA0 (Body D AwL):=by
 intro w hsz
 simp -implicitDefEqProofs
 refine Aa (hW w hsz) ?_
 by_cases g1:Ap w=true
 rotate_left
 ·simp -implicitDefEqProofs [g1,Atx]
 simp -implicitDefEqProofs [g1]
 refine Aa (hB w hsz) ?_
 by_cases g2:AyU w=true
 rotate_left
 ·simp -implicitDefEqProofs [g1,g2,Atx]
 simp -implicitDefEqProofs [g2]
 refine Aa (hT w hsz) ?_
 by_cases g3:AtY w=true
 rotate_left
 ·simp -implicitDefEqProofs [g1,g2,g3,Atx]
 simp -implicitDefEqProofs [g3]
 refine Aa (hC w hsz) ?_
 by_cases g4:w.hurt=cntF (Avc w) w.log
 rotate_left
 ·simp -implicitDefEqProofs [g1,g2,g3,g4,Atx]
 simp -implicitDefEqProofs [<-g4]
 refine Aa (hS w hsz) ?_
 by_cases g5:w.log.any Ayi=true
 ·simp -implicitDefEqProofs [g1,g2,g3,g5,<-g4,Atx]
 ·simp -implicitDefEqProofs [g1,g2,g3,g5,<-g4,Atx]
set_option maxHeartbeats 2000000
set_option maxHeartbeats 2000000
def Aei (bs:List Int):Prop:=bs.length<=1048576/\∀b,b∈bs->0<=b/\b<=255
def Rp (R:Rel) (bs:List Int) {α:Type} (P:α->Prop) (res:α->V):Prop:=∃a,P a/\R [.sl 3 1 bs.length (u8s bs)] [] (res a) []
theorem MU {D:Dn} {f:Cm} {bs:List Int} {α:Type} {P:α->Prop} {res:α->V} (h:∀Q:V->List O->Prop,(∀a,P a->Q (res a) [])->Aju D f [.sl 3 1 bs.length (u8s bs)] [] Q):Rp (Body D f) bs P res:=by
 obtain⟨v,o,⟨a,h1,rfl,rfl⟩,h3⟩:=Afh (P:=fun v o=>∃a,P a/\v=res a/\o=[]) (fun Q hQ=>h Q (fun a h1=>hQ _ _ ⟨a,h1,rfl,rfl⟩))
 exact⟨a,h1,h3⟩
set_option maxHeartbeats 2000000
abbrev An6:Prop:=∀bs:List Int,bs.length<=maxLen->R [.sl 3 1 bs.length (u8s bs)] [] (B (decide (1048576<bs.length))) []
theorem ArJ:An6 (Body D WT):=by
 intro bs h
 unfold maxLen at h
 by_cases h1:1048576<bs.length
 ·have h1':(1048576:Int)<bs.length:=by omega
  simp -implicitDefEqProofs [h1,h1']
 ·have h1':¬(1048576:Int)<bs.length:=by omega
  simp -implicitDefEqProofs [h1,h1']
def AoL (bs:List Int):Prop:=bs.length<=maxLen/\∀b,b∈bs->0<=b/\b<=255
end Go.Eng.T
namespace Go.Eng.T
open Go.Eng.X
set_option maxRecDepth 100000
def AuV:=mk 35459254198940 0xc0202ec03820110101 [4573968510485506,0x1484188600200020104fe191000800413e86041820,0x35c10621c4224430045a2882180a412840a0c310e08043020700301cc12670150290cc01cc810100040400004140860203944,0x4184040002208000c40862,0x18a1280104804040a1c30302202303050a1910102108468040208c0800c14286441c80,0x29061014000b504290102129a00160a24321084431bc084c04020880044288208010040840c14286409800880702022062031a2]
def Azs:=dT 2512694677532
def LJ:Nat->Ce
 |0=>R 0 [m (z 1)] [] [1]
 |1=>R 1 [m i0] [(2,0)] []
 |2=>R 2 [m s0,e l0,m i0] [(6,0),(7,1),(8,2)] []
 |3=>R 3 [y .lss s8 s7] [(9,0)] []
 |4=>R 4 [A 1 s6 s8,L l0,m l1] [(3,2)] []
 |5=>R 5 [m s2,m s3,e l1,y .add l0 l2,m l3] [(2,4)] [3]
 |6=>R 6 [m s2,y .lss l0 i0] [(10,1)] []
 |7=>R 8 [y .add s8 i1,m l0] [(8,1)] []
 |8=>Q 9 [m s2,C 419 [r (.con (.sc (.slice none 0 0))),r l0] [0],m l1] [(4,2)] [2,6,7,8] [] [w 0 2]
 |9=>R 10 [m s0,e l0,m i0] [(11,0),(12,1),(13,2)] [0]
 |10=>R 11 [y .lss s13 s12] [(14,0)] []
 |11=>R 12 [A 1 s11 s13,L l0,m l1] [(5,2)] []
 |12=>Q 13 [m s4,m s5,q 1 1 8 l0 l1,m l2] [(4,3)] [5] [1] [w 1 2]
 |13=>R 14 [y .add s13 i1,m l0] [(13,1)] []
 |_=>R 15 [m s4,m l0] [(1,1)] [4,11,12,13]
def AsF:Cm:=⟨15,3,[0],0,false,[],U (LJ 0) (U (LJ 1) (j (U (LJ 2) (.block 0 (.loop (U (LJ 3) (j (h 9 sk (.exit 0)) (j (.block 1 (U (LJ 4) (U (LJ 5) (U (LJ 6) (hs 10 (.stuck)))))) (d (LJ 7)))))))) (U (LJ 8) (j (U (LJ 9) (.block 2 (.loop (U (LJ 10) (j (h 14 sk (.exit 2)) (j (.block 3 (U (LJ 11) (d (LJ 12)))) (d (LJ 13)))))))) (ur (LJ 14)))))),[.slot 1]⟩
def Avs:List Tmp:=[0,2,3,5,6,8,9,10,11,12,20,25,26,27,28]
attribute [simp] AuV LJ AsF
end Go.Eng.T
namespace Go.Eng.T
end Go.Eng.T
namespace Go.Eng.T
set_option maxRecDepth 20000
set_option maxHeartbeats 4000000
theorem AqC {w:World} {l:List Event} {m:Nat} (hw:Af w<=400) (he:∀e,e∈l->AiO e) (hl:l.length<=30):Abe w l/\Af (Av w l)<=4200:=by
 have h1:=AfG l he
 have h2:=Aeh w l l.length (Nat.le_refl _)
 rw[List.take_length]at h2
 have h3:=AnN (Av w l)
 have h4:=Am5 w
 have h5:w.ends.length<=Af w:=by have:=J9 (f:=Am) (xs:=w.ends);unfold Af;omega
 refine⟨by unfold Abe;omega,by omega⟩
set_option maxHeartbeats 2000000
def AI3 (p:Nat->Bool):Nat->Nat
 | 0=>0
 | n+1=>AI3 p n+(if p n then 1 else 0)
theorem AF4 (p:Nat->Bool):∀n,AI3 p n<=n
 | 0=>Nat.le_refl 0
 | n+1=>by have:=AF4 p n;simp only[AI3];split<;>omega
theorem AgC {l:List Int} (h:0<Sw l):∃x,x∈l/\0<x:=by
 by_cases hx:∃x,x∈l/\0<x
 ·exact hx
 ·exfalso
  have h1:∀y,y∈l->y<1:=fun y hy=>by
   by_cases h2:0<y
   ·exact absurd ⟨y,hy,h2⟩ hx
   ·omega
  have:=Aew (x:=1) l 0 h1 (by omega)
  unfold Sw at h
  omega
theorem Alb {s l l':List Int} (h:0<AJ s l) (hl:AQ l' =true) (hs:∀x,x∈l->x∈l'):0<AJ s l':=by
 unfold AJ at h⊢
 split at h
 ·rename_i hc
  rw[if_pos ⟨hc.1,hl⟩]
  obtain⟨x,hx,h0⟩:=AgC h
  unfold common at hx⊢
  have hx':=List.mem_filter.1 hx
  have hm:x∈s.filter fun v=>decide (v∈l'):=List.mem_filter.2 ⟨hx'.1,by simpa using hs x (by simpa using hx'.2)⟩
  have:=max_mem (a:=0) hm
  unfold Sw
  omega
 ·omega
theorem Ajj (s l:List Int):0<=AJ s l:=by
 unfold AJ
 split
 ·unfold Sw
  have ge:∀(l:List Int) (a:Int),a<=l.foldl (fun a v=>if v>a then v else a) a:=by
   intro l
   induction l with
   | nil=>intro a;exact Int.le_refl a
   | cons z l ih=>
    intro a
    simp only[List.foldl_cons]
    refine Int.le_trans ?_ (ih _)
    split<;>omega
  exact ge _ 0
 ·omega
theorem Ie {s l:List Int}:reach s l=true↔0<AJ s l:=by
 unfold reach
 have:=Ajj s l
 simp
 omega
theorem Aai {l:List Int} {v:Int} (h:AQ l=true) (hv:1<=v/\v<=9):AQ (El l v)=true:=by
 refine ZB (AeM v (Ru h)) (fun x hx=> ?_) (put_pos l v)
 rcases(IQ l v x).1 hx with hx | rfl
 ·have:=RF h x hx;exact⟨this.1,this.2⟩
 ·exact hv
theorem OX {l:List Int} {s:List Int} (h:0<AJ s l):AQ l=true:=by
 unfold AJ at h
 split at h
 ·rename_i hc;exact hc.2
 ·omega
theorem SI {e:Ai} (h:Au e=true) {l:List Int} (hl:AQ l=true):Au ⟨l,e.tags,e.path,e.cls⟩=true:=by
 unfold Au at h⊢
 simp only[Bool.and_eq_true]at h⊢
 exact⟨hl,h.2⟩
structure AqL (w:World):Prop where
 reach:AQ w.server=true/\∀e,e∈w.ends->reach w.server e.versions=true
 tags:FI w.tags=true/\Mj w.key=true
 few:w.ends.length<=6
 ends:∀e,e∈w.ends->Au e=true
 b:FM w=true
 c:Es w=true
theorem BU {w:World}:Ap w=true↔AqL w:=by
 unfold Ap Ke FY
 simp only[Bool.and_eq_true,decide_eq_true_eq,List.all_eq_true]
 constructor
 ·rintro ⟨⟨⟨h1,h2⟩,h3,h4⟩,h5,h6,h7,h8⟩
  exact⟨⟨h1,fun e he=>h2 _ (List.mem_map.2 ⟨e,he,rfl⟩)⟩,⟨h3,h4⟩,h5,h6,h7,h8⟩
 ·rintro ⟨⟨h1,h2⟩,⟨h3,h4⟩,h5,h6,h7,h8⟩
  exact⟨⟨⟨h1,fun l hl=>by obtain⟨e,he,rfl⟩:=List.mem_map.1 hl;exact h2 e he⟩,h3,h4⟩,h5,h6,h7,h8⟩
theorem Ag3 {w:World} (h:Ap w=true):Ap (leave w)=true:=by
 have p:=BU.1 h
 refine BU.2 ⟨⟨p.reach.1,?_⟩,p.tags,by simp[leave];exact p.few,?_,p.b,?_⟩
 ·intro e he
  obtain⟨e0,h0,rfl⟩:=List.mem_map.1 he
  unfold Ev
  split
  ·rename_i hb;exact Ie.2 hb
  ·exact p.reach.2 e0 h0
 ·intro e he
  obtain⟨e0,h0,rfl⟩:=List.mem_map.1 he
  unfold Ev
  split
  ·rename_i hb;exact SI (p.ends e0 h0) (OX hb)
  ·exact p.ends e0 h0
 ·have hc:=p.c
  unfold Es at hc⊢
  simp only[leave,Bool.and_eq_true]at hc⊢
  exact⟨by simp,hc.2⟩
theorem AaE {r:AX} (h:AP r=true):NJ r.version 1 9/\NJ r.pos 0 ((r.stages.length:Int)-1)/\(∀x,x∈r.stages->1<=x/\x<=100):=by
 unfold AP at h
 simp only[Bool.and_eq_true,decide_eq_true_eq]at h
 obtain⟨h1,⟨⟨h2,h3⟩,h4⟩,h5⟩:=h
 refine⟨h2,h5,fun x hx=> ?_⟩
 obtain⟨i,hi,rfl⟩:=List.getElem_of_mem hx
 have:=AfY h1 hi
 rw[getD_at hi]at this
 exact⟨this.1,this.2⟩
theorem XJ {w:World} (h:Ap w=true):Ap (enter w)=true:=by
 by_cases hc:Hg w=true
 rotate_left
 ·unfold enter;rw[if_neg hc];exact h
 have p:=BU.1 h
 have hr:AP w.rollout=true:=by
  unfold Hg at hc
  simp only[Bool.and_eq_true]at hc
  exact hc.1
 have rf:=AaE hr
 have e:enter w={w with ends:=w.ends.mapIdx (Fv w),stage:=[],reached:=max w.reached (w.rollout.pos+1)}:=by unfold enter;rw[if_pos hc]
 have hm:∀e1,e1∈(enter w).ends->∃e0,e0∈w.ends/\(e1=e0∨e1=⟨El e0.versions w.rollout.version,e0.tags,e0.path,e0.cls⟩):=by
  intro e1 h1
  rw[e]at h1
  dsimp only at h1
  obtain⟨i,hi,rfl⟩:=List.getElem_of_mem h1
  rw[List.getElem_mapIdx]
  have hi':i<w.ends.length:=by simpa using hi
  refine⟨w.ends[i],List.getElem_mem hi',?_⟩
  unfold Fv
  split
  ·exact .inr rfl
  ·exact .inl rfl
 refine BU.2 ⟨⟨by rw[e];exact p.reach.1,?_⟩,by rw[e];exact p.tags,by rw[e];simp;exact p.few,?_,by rw[e];exact p.b,?_⟩
 ·intro e1 h1
  obtain⟨e0,h0,h2⟩:=hm e1 h1
  have hs:(enter w).server=w.server:=by rw[e]
  rw[hs]
  rcases h2 with rfl | rfl
  ·exact p.reach.2 _ h0
  ·have:=Ie.1 (p.reach.2 e0 h0)
   exact Ie.2 (Alb this (Aai (OX this) ⟨rf.1.1,rf.1.2⟩) (fun x hx=>(IQ _ _ _).2 (.inl hx)))
 ·intro e1 h1
  obtain⟨e0,h0,h2⟩:=hm e1 h1
  rcases h2 with rfl | rfl
  ·exact p.ends _ h0
  ·have:=Ie.1 (p.reach.2 e0 h0)
   exact SI (p.ends e0 h0) (Aai (OX this) ⟨rf.1.1,rf.1.2⟩)
 ·have hc:=p.c
  unfold Es at hc⊢
  rw[e]
  simp only[Bool.and_eq_true,decide_eq_true_eq]at hc⊢
  obtain⟨_,h2,h3,h4,h5⟩:=hc
  refine⟨by simp,h2,h3,h4,?_⟩
  have:=rf.2.1.1
  have:=rf.2.1.2
  have:=h5.1
  have:=h5.2
  constructor<;>omega
set_option maxHeartbeats 2000000
theorem Ajm {w:World} (h:Ap w=true):M6 w.hurt 0 w.log.length/\w.log.length<=60/\w.stage.length<=60:=by
 have:=(BU.1 h).c
 unfold Es at this
 simp only[Bool.and_eq_true,decide_eq_true_eq]at this
 exact⟨this.2.2.2.1,this.2.1,this.1⟩
theorem AiA {w:World} {i:Int} {d:BP} {on:Bool} (h:Ap w=true) (hm:Lu w i=true):Ap (Hu w i d on)=true:=by
 have p:=BU.1 h
 have hh:=Ajm h
 unfold Lu at hm
 simp only[Bool.and_eq_true,decide_eq_true_eq]at hm
 have hw:IntKind.i64.wrap (w.hurt+1)=w.hurt+1:=Ad (by have:=hh.1.1;omega) (by have:=hh.1.2;omega)
 refine BU.2 ⟨p.reach,p.tags,p.few,p.ends,p.b,?_⟩
 have hc:=p.c
 unfold Es at hc⊢
 simp only[Bool.and_eq_true,decide_eq_true_eq]at hc⊢
 obtain⟨h1,h2,h3,h4,h5⟩:=hc
 refine⟨?_,by simp[Hu];omega,h3,?_,h5⟩
 ·unfold Hu;dsimp only;split
  ·simp;omega
  ·exact h1
 ·unfold Hu
  dsimp only
  rw[hw]
  have a1:=h4.1
  have a2:=h4.2
  split
  ·constructor
   ·omega
   ·simp;omega
  ·constructor
   ·omega
   ·simp;omega
theorem Abu {w:World} {i:Int} (h:Ap w=true):Ap (CR w i).1=true:=by
 unfold CR
 split
 ·rename_i hm;exact AiA h hm
 ·exact h
theorem Zc {w:World} (h:Ap w=true):Ap (Dc w).1=true:=by
 unfold Dc
 split
 ·exact XJ h
 ·exact h
theorem Z6 {w:World} {r:AX} (h:Ap w=true) (hr:AP r=true) (hv:r.version=w.rollout.version) (hs:r.stages=w.rollout.stages):Ap (Ca w r)=true:=by
 have p:=BU.1 h
 refine BU.2 ⟨p.reach,p.tags,p.few,p.ends,?_,?_⟩
 ·have hb:=p.b
  unfold FM at hb⊢
  unfold Ca
  simp only[Bool.and_eq_true,decide_eq_true_eq]at hb⊢
  rw[hv]
  exact⟨hr,hb.2⟩
 ·have hc:=p.c
  unfold Es at hc⊢
  unfold Ca
  dsimp only
  rw[hs]
  exact hc
theorem AkU {r:AX} (h:(Bp r).2=true):AP (Bp r).1=true:=by
 unfold Bp at h⊢
 split at h
 ·rename_i hc
  rw[if_pos hc]
  unfold RO at hc
  simp only[Bool.and_eq_true,Bool.not_eq_true',decide_eq_false_iff_not]at hc
  obtain⟨h1,h2,h3⟩:=hc
  unfold AP at h1⊢
  simp only[Bool.and_eq_true,decide_eq_true_eq]at h1⊢
  obtain⟨a1,⟨⟨a2,a3⟩,a4⟩,a5⟩:=h1
  have:=a5.1
  have:=a5.2
  exact⟨a1,⟨⟨a2,a3⟩,a4⟩,⟨by omega,by omega⟩⟩
 ·cases h
theorem Ak0 {r:AX} (h:(BI r).2=true):AP (BI r).1=true:=by
 unfold BI at h⊢
 split at h
 ·rename_i hc
  rw[if_pos hc]
  unfold VD at hc
  simp only[Bool.and_eq_true]at hc
  have h1:=hc.1
  unfold AP at h1⊢
  simp only[Bool.and_eq_true,decide_eq_true_eq]at h1⊢
  obtain⟨a1,⟨⟨a2,a3⟩,a4⟩,a5⟩:=h1
  have:=a5.1
  have:=a5.2
  exact⟨a1,⟨⟨a2,a3⟩,a4⟩,⟨by omega,by omega⟩⟩
 ·cases h
theorem Ahb (r:AX):(Bp r).1.stages=r.stages:=by unfold Bp;split<;>rfl
theorem AfT (r:AX):(BI r).1.stages=r.stages:=by unfold BI;split<;>rfl
theorem YB {w:World} (h:Ap w=true):Ap (BS w).1=true:=by
 unfold BS
 split
 ·exact h
 ·split
  ·split
   ·rename_i hn;exact XJ (Z6 h (AkU hn) (Agw _) (Ahb _))
   ·exact h
  ·split
   ·split
    ·rename_i hn;exact Ag3 (Z6 h (Ak0 hn) (Abi _) (AfT _))
    ·exact h
   ·exact h
theorem Agn {α:Type} {p:α->Bool}:∀(xs:List α) (i:Nat),Le p xs i=[]->∀x,x∈xs->p x=false
 | [],_,_,x,hx=>by cases hx
 | a::r,i,h,x,hx=>by
  unfold Le at h
  split at h
  ·cases h
  ·rename_i hp
   rcases List.mem_cons.1 hx with rfl | hx
   ·simpa using hp
   ·exact Agn r (i+1) h x hx
theorem Xf {w:World} {v pm:Int} (h:Ap w=true):Ap (Br w v pm).1=true:=by
 unfold Br
 split
 rotate_left
 ·exact h
 rename_i hc
 obtain⟨h1,h2⟩:=hc
 have p:=BU.1 h
 have hm:FP w.server (Fh w) v pm=true:=by
  unfold GN at h1
  split at h1
  ·assumption
  ·cases h1
 have e:(GN w.server (Fh w) v pm).1=Co w.server v:=by unfold GN;rw[if_pos hm]
 rw[e]
 unfold FP at hm
 simp only[Bool.and_eq_true,decide_eq_true_eq,Bool.not_eq_true',decide_eq_false_iff_not]at hm
 obtain⟨m1,m2,m3,m4,m5,m6⟩:=hm
 have hmem:∀x,x∈Co w.server v↔x∈w.server/\¬x=v:=by intro x;unfold Co;simp[List.mem_filter]
 have hver:w.rollout.version∈w.server:=by
  have hb:=p.b
  unfold FM at hb
  simp only[Bool.and_eq_true,decide_eq_true_eq]at hb
  exact hb.2.1
 refine BU.2 ⟨⟨?_,?_⟩,p.tags,p.few,p.ends,?_,p.c⟩
 ·refine ZB ?_ (fun x hx=> ?_) ?_
  ·exact List.Pairwise.filter _ (Ru m1)
  ·have:=RF m1 x ((hmem x).1 hx).1;exact⟨this.1,this.2⟩
  ·exact List.length_pos_of_mem ((hmem _).2 ⟨hver,fun h=>h2 h.symm⟩)
 ·intro e he
  have h3:=Agn _ _ m5 e.versions (by unfold Fh;exact List.mem_map.2 ⟨e,he,rfl⟩)
  have h4:=Ie.1 (p.reach.2 e he)
  have h5:=Ajj (Co w.server v) e.versions
  unfold Zk at h3
  refine Ie.2 ?_
  dsimp only
  simp[h4]at h3
  omega
 ·have hb:=p.b
  unfold FM at hb⊢
  simp only[Bool.and_eq_true,decide_eq_true_eq]at hb⊢
  exact⟨hb.1,(hmem _).2 ⟨hver,fun h=>h2 h.symm⟩,hb.2.2⟩
theorem Ah9 {s s' l:List Int} (h:0<AJ s l) (hl:AQ s' =true) (hs:∀x,x∈s->x∈s'):0<AJ s' l:=by
 unfold AJ at h⊢
 split at h
 ·rename_i hc
  rw[if_pos ⟨hl,hc.2⟩]
  obtain⟨x,hx,h0⟩:=AgC h
  unfold common at hx⊢
  have hx':=List.mem_filter.1 hx
  have hm:x∈s'.filter fun v=>decide (v∈l):=List.mem_filter.2 ⟨hs x hx'.1,hx'.2⟩
  have:=max_mem (a:=0) hm
  unfold Sw
  omega
 ·omega
theorem Wu {w:World} {v:Int} (h:Ap w=true):Ap (EC w v).1=true:=by
 unfold EC
 dsimp only
 have p:=BU.1 h
 by_cases hc:Tn w.server v=true
 rotate_left
 ·have e:(KT w.server v).1=w.server:=by unfold KT;rw[if_neg hc]
  rw[e];exact h
 have e:(KT w.server v).1=El w.server v:=by unfold KT;rw[if_pos hc]
 rw[e]
 unfold Tn at hc
 simp only[Bool.and_eq_true,decide_eq_true_eq]at hc
 have hv:=Aai hc.1 hc.2.1
 refine BU.2 ⟨⟨hv,fun e he=> ?_⟩,p.tags,p.few,p.ends,?_,p.c⟩
 ·exact Ie.2 (Ah9 (Ie.1 (p.reach.2 e he)) hv (fun x hx=>(IQ _ _ _).2 (.inl hx)))
 ·have hb:=p.b
  unfold FM at hb⊢
  simp only[Bool.and_eq_true,decide_eq_true_eq]at hb⊢
  exact⟨hb.1,(IQ _ _ _).2 (.inl hb.2.1),hb.2.2⟩
theorem AdF {w:World} {j:Nat} {e:Ai} (h:Ap w=true) (hj:j<w.ends.length) (he:Au e=true) (hv:e.versions=w.ends[j].versions):Ap {w with ends:=w.ends.set j e} =true:=by
 have p:=BU.1 h
 have hm:∀x,x∈w.ends.set j e->x∈w.ends∨x=e:=fun x hx=>List.mem_or_eq_of_mem_set hx
 refine BU.2 ⟨⟨p.reach.1,fun x hx=> ?_⟩,p.tags,by simp;exact p.few,fun x hx=> ?_,p.b,p.c⟩
 ·rcases hm x hx with hx | rfl
  ·exact p.reach.2 x hx
  ·rw[hv];exact p.reach.2 _ (List.getElem_mem hj)
 ·rcases hm x hx with hx | rfl
  ·exact p.ends x hx
  ·exact he
theorem AcB {w:World} {i:Int} {b:EG} (h:Ap w=true):Ap (Fg w i b).1=true:=by
 have p:=BU.1 h
 unfold Fg
 split
 rotate_left
 ·exact h
 split
 rotate_left
 ·exact h
 rename_i x hx
 split
 rotate_left
 ·exact h
 rename_i hc
 obtain⟨hj,rfl⟩:=List.getElem?_eq_some_iff.1 hx
 refine AdF h hj ?_ rfl
 have he:=p.ends _ (List.getElem_mem hj)
 unfold Au at he⊢
 simp only[Bool.and_eq_true,decide_eq_true_eq]at he⊢
 obtain⟨a1,a2,a3,a4,a5,a6,a7⟩:=he
 refine⟨a1,a2,a3,a4,by simp;omega,?_,a7⟩
 rw[List.all_append,a6]
 simp[hc.1]
theorem YA {w:World} {i:Int} (h:Ap w=true):Ap (DX w i).1=true:=by
 have p:=BU.1 h
 unfold DX
 split
 rotate_left
 ·exact h
 split
 rotate_left
 ·exact h
 rename_i x hx
 split
 ·exact h
 unfold Ob
 rw[hx]
 dsimp only
 obtain⟨hj,rfl⟩:=List.getElem?_eq_some_iff.1 hx
 refine AdF h hj ?_ rfl
 have he:=p.ends _ (List.getElem_mem hj)
 unfold Au at he⊢
 simp only[Bool.and_eq_true,decide_eq_true_eq]at he⊢
 obtain⟨a1,a2,a3,a4,a5,a6,a7⟩:=he
 exact⟨a1,a2,a3,a4,by simp,by simp,a7⟩
theorem Abs {w:World} {n:Int} (h:Ap w=true):Ap (ED w n).1=true:=by
 have p:=BU.1 h
 unfold ED
 split
 rotate_left
 ·exact h
 rename_i hc
 refine BU.2 ⟨p.reach,p.tags,p.few,p.ends,p.b,?_⟩
 have hh:=p.c
 unfold Es at hh⊢
 simp only[Bool.and_eq_true,decide_eq_true_eq]at hh⊢
 have a1:=hc.1.1
 have a2:=hc.2.1
 have a3:=hc.2.2
 exact⟨hh.1,hh.2.1,⟨by omega,by omega⟩,hh.2.2.2⟩
theorem Aho {w:World} {e:Event} (h:Ap w=true):Ap (AA w e).1=true:=by
 unfold AA
 repeat' split
 ·exact Abu h
 ·exact Zc h
 ·exact YB h
 ·exact Xf h
 ·exact Wu h
 ·exact AcB h
 ·exact YA h
 ·exact Abs h
 ·exact h
theorem Alx {w:World}:∀ {l:List Event},Ap w=true->Ap (Av w l)=true:=by
 intro l
 induction l generalizing w with
 | nil=>intro h;exact h
 | cons e l ih=>intro h;exact ih (Aho h)
set_option maxHeartbeats 4000000
theorem RS (w:World):(enter w).log=w.log:=by unfold enter;split<;>rfl
theorem AdD (w:World):(enter w).stage.length<=w.stage.length:=by unfold enter;split<;>simp
theorem Z4 (w:World):(enter w).ends.length=w.ends.length:=by unfold enter;split<;>simp
theorem AlP (w:World) (e:Event):(AA w e).1.log.length<=w.log.length+(if e.kind=1 then 1 else 0)/\(AA w e).1.stage.length<=w.stage.length+1/\(AA w e).1.ends.length=w.ends.length:=by
 unfold AA
 by_cases g1:e.kind=1
 ·rw[if_pos g1,if_pos g1]
  unfold CR
  split
  ·unfold Hu
   dsimp only
   refine⟨by simp,?_,rfl⟩
   split<;>simp
  ·exact⟨by first | omega | (dsimp only;omega),by first | omega | (dsimp only;omega),rfl⟩
 rw[if_neg g1,if_neg g1]
 split
 ·unfold Dc
  split
  ·have:=AdD w
   exact⟨by rw[RS];first | omega | (dsimp only;omega),by first | omega | (dsimp only;omega),Z4 w⟩
  ·exact⟨by first | omega | (dsimp only;omega),by first | omega | (dsimp only;omega),rfl⟩
 split
 ·unfold BS
  split
  ·exact⟨by first | omega | (dsimp only;omega),by first | omega | (dsimp only;omega),rfl⟩
  split
  ·split
   ·have:=AdD (Ca w (Bp w.rollout).1)
    refine⟨by rw[RS];unfold Ca;first | omega | (dsimp only;omega),?_,by show(enter _).ends.length=_;rw[Z4];rfl⟩
    unfold Ca at this⊢;dsimp only at this⊢;omega
   ·exact⟨by first | omega | (dsimp only;omega),by first | omega | (dsimp only;omega),rfl⟩
  split
  ·split
   ·refine⟨?_,?_,?_⟩
    ·unfold leave Ca;first | omega | (dsimp only;omega)
    ·unfold leave Ca;simp
    ·unfold leave Ca;simp
   ·exact⟨by first | omega | (dsimp only;omega),by first | omega | (dsimp only;omega),rfl⟩
  ·exact⟨by first | omega | (dsimp only;omega),by first | omega | (dsimp only;omega),rfl⟩
 split
 ·unfold Br;split<;>exact⟨by first | omega | (dsimp only;omega),by first | omega | (dsimp only;omega),rfl⟩
 split
 ·unfold EC;exact⟨by first | omega | (dsimp only;omega),by first | omega | (dsimp only;omega),rfl⟩
 split
 ·unfold Fg
  split
  ·split
   ·split
    ·exact⟨by first | omega | (dsimp only;omega),by first | omega | (dsimp only;omega),by simp⟩
    ·exact⟨by first | omega | (dsimp only;omega),by first | omega | (dsimp only;omega),rfl⟩
   ·exact⟨by first | omega | (dsimp only;omega),by first | omega | (dsimp only;omega),rfl⟩
  ·exact⟨by first | omega | (dsimp only;omega),by first | omega | (dsimp only;omega),rfl⟩
 split
 ·unfold DX
  split
  ·split
   ·split
    ·exact⟨by first | omega | (dsimp only;omega),by first | omega | (dsimp only;omega),rfl⟩
    ·unfold Ob
     split
     ·exact⟨by first | omega | (dsimp only;omega),by first | omega | (dsimp only;omega),by simp⟩
     ·exact⟨by first | omega | (dsimp only;omega),by first | omega | (dsimp only;omega),rfl⟩
   ·exact⟨by first | omega | (dsimp only;omega),by first | omega | (dsimp only;omega),rfl⟩
  ·exact⟨by first | omega | (dsimp only;omega),by first | omega | (dsimp only;omega),rfl⟩
 split
 ·unfold ED;split<;>exact⟨by first | omega | (dsimp only;omega),by first | omega | (dsimp only;omega),rfl⟩
 ·exact⟨by first | omega | (dsimp only;omega),by first | omega | (dsimp only;omega),rfl⟩
structure LW (n:Nat) (w:World):Prop where
 ok:Ap w=true
 pt:Yv w<=3500+10*n
 log:w.log.length<=n
 stg:w.stage.length<=n
 ends:0<w.ends.length/\w.ends.length<=5
set_option maxHeartbeats 2000000
def Vh (n:Nat) (w:World):Prop:=∀x,x∈w.log->(0<=x.fin/\x.fin<n)/\∃w0 i,x.dialed=KI w0 i
theorem OY {n:Nat} {w w':World} (h:Vh n w) (e:w'.log=w.log):Vh n w':=by unfold Vh;rw[e];exact h
theorem Ahr {n:Nat} {w:World} {e:Event} (hn:w.ends.length=n) (h:Vh n w):Vh n (AA w e).1:=by
 unfold AA
 by_cases g1:e.kind=1
 ·rw[if_pos g1]
  unfold CR
  split
  ·rename_i hm
   unfold Lu at hm
   simp only[Bool.and_eq_true,decide_eq_true_eq]at hm
   have a1:=hm.1.1
   have a2:=hm.1.2
   intro x hx
   unfold Hu at hx
   dsimp only at hx
   rcases List.mem_append.1 hx with hx | hx
   ·exact h x hx
   ·simp at hx
    subst hx
    exact⟨⟨a1,by dsimp only;omega⟩,w,e.n,rfl⟩
  ·exact h
 rw[if_neg g1]
 split
 ·unfold Dc
  split
  ·exact OY h (RS w)
  ·exact h
 split
 ·unfold BS
  split
  ·exact h
  split
  ·split
   ·exact OY h (by rw[RS];rfl)
   ·exact h
  split
  ·split
   ·exact OY h rfl
   ·exact h
  ·exact h
 split
 ·unfold Br;split<;>exact h
 split
 ·exact h
 split
 ·unfold Fg
  split
  ·split
   ·split<;>exact h
   ·exact h
  ·exact h
 split
 ·unfold DX
  split
  ·split
   ·split
    ·exact h
    ·exact OY h (by unfold Ob;split<;>rfl)
   ·exact h
  ·exact h
 split
 ·unfold ED;split<;>exact h
 ·exact h
theorem AdP {n:Nat}:∀ {l:List Event} {w:World},w.ends.length=n->Vh n w->Vh n (Av w l)/\(Av w l).ends.length=n
 | [],w,hn,h=>⟨h,hn⟩
 | e::l,w,hn,h=>AdP (l:=l) (w:=(AA w e).1) (by rw[(AlP w e).2.2];exact hn) (Ahr hn h)
set_option maxHeartbeats 4000000
set_option maxHeartbeats 2000000
set_option maxHeartbeats 2000000
set_option maxHeartbeats 4000000
set_option maxHeartbeats 4000000
set_option maxHeartbeats 4000000
structure AsH (p:World×List Event):Prop where
 ok:Ap p.1=true
 sz:Af p.1<=400
 log:p.1.log=[]
 ev:∀e,e∈p.2->AiO e
 len:0<p.2.length/\p.2.length<=18
 first:∃(w:World) (y:Int),Aek w/\p.1={w with least:=y}
set_option maxHeartbeats 4000000
structure Anr (w:World):Prop where
 ok:Ap w=true
 sz:Af w<=4200
 log:Vh w.ends.length w
variable (R:Rel)
abbrev Rt:Prop:=∀c:QM,Dw c->JA R [] c Anr (fun w=> .agg (Bu w))
variable (D:Dn)
theorem Ais (hW:RU (D 479)) (hE:O9 (D 484)) (hR:P6 (D 485)):Rt (Body D IK):=by
 intro c hc
 refine EJ (fun Q hQ=> ?_)
 simp -implicitDefEqProofs
 obtain⟨w,c1,hw,hc1,pw⟩:=hW c hc
 simp -implicitDefEqProofs [AL,ints]at pw
 refine Aa (pw) ?_
 simp -implicitDefEqProofs
 obtain⟨l,c2,⟨he,hl1,hl2⟩,hc2,pl⟩:=hE c1 16 hc1 (by omega)
 simp -implicitDefEqProofs [AL,ints]at pl
 refine Aa (pl) ?_
 have hl3:l.length<=30:=by simp at hl2;omega
 obtain⟨hok,hsz⟩:=AqC (m:=0) hw.sz he hl3
 have hwd:=Alx (w:=w) (l:=l) hw.ok
 have hlo:=AdP (l:=l) (w:=w) rfl (fun x hx=>by rw[hw.nolog]at hx;cases hx)
 have hlg:Vh (Av w l).ends.length (Av w l):=by rw[hlo.2];exact hlo.1
 clear hlo
 have pr:=hR w l hok
 simp -implicitDefEqProofs [Bu,ints]at pr⊢
 refine Aa (pr) ?_
 generalize Av w l=y at hsz hwd hlg
 simp -implicitDefEqProofs [Cu,Ab]
 exact hQ y c2 ⟨hwd,hsz,hlg⟩ hc2
open Go.Lib
set_option maxHeartbeats 1000000
def Ww (l:List UInt8):ByteArray:=⟨l.toArray⟩
@[simp] theorem ArQ (l:List UInt8):(Ww l).size=l.length:=by simp[Ww,ByteArray.size]
@[simp] theorem Ar6 (a b:List UInt8):Ww a++Ww b=Ww (a++b):=by
 apply ByteArray.ext
 simp[Ww]
@[simp] theorem Ar3 (l:List UInt8):ByteArray.mk l.toArray=Ww l:=rfl
@[simp] theorem Ar1:ByteArray.mk #[]=Ww []:=rfl
abbrev Sb (l:List UInt8):V:= .sc (.string (Ww l))
def strs (ls:List (List UInt8)):List V:=ls.map fun l=>Sb l
@[simp high] theorem ArP (xs:List (List UInt8)):(strs xs).length=xs.length:=by simp[strs]
@[simp] theorem ArC:strs []=[]:=rfl
@[simp] theorem ArX (xs:List (List UInt8)) (k:Nat):(strs xs).map (AO k)=strs xs:=by simp[strs,Function.comp_def,AO]
@[simp] theorem Arr (xs:List (List UInt8)) (l:List UInt8):strs xs++ [V.sc (.string (Ww l))]=strs (xs++ [l]):=by simp[strs]
theorem E5 {n:Int} (h:Py n):(itoa n).length<=20:=by
 have key:∀u:Nat,u<=9223372036854775808->(decDigits u).length<=19:=by
  intro u hu
  rw[decDigits_length]
  by_cases h0:nDigits u<=19
  ·exact h0
  have h1:¬u<10:=by intro h2;rw[nDigits_small h2]at h0;omega
  have h2:=nDigits_unique 18 u
  by_cases h3:10 ^ 18<=u
  ·have:=h2 h3 (by omega);omega
  ·have h4:∀k,∀v:Nat,v<10 ^ (k+1)->nDigits v<=k+1:=by
    intro k
    induction k with
    | zero=>intro v hv;rw[nDigits_small (by omega)];omega
    | succ k ih=>
     intro v hv
     by_cases h5:v<10
     ·rw[nDigits_small h5];omega
     ·rw[nDigits_big h5]
      have:=ih (v / 10) (by rw[Nat.pow_succ]at hv;omega)
      omega
   have:=h4 17 u (by omega)
   omega
 unfold Py at h
 unfold itoa
 split
 ·have:=key n.natAbs (by omega)
  simp only[List.length_cons];omega
 ·have:=key n.toNat (by omega)
  omega
abbrev EB:Prop:=∀n:Int,Py n->R [I n] [] (Sb (itoa n)) []
abbrev Ane:Prop:=∀(ls:List (List UInt8)) (sep:List UInt8),ls.length<=4194304->(join ls sep).length<=140737488355328->R [.sl 1 1 ls.length (strs ls),Sb sep] [] (Sb (join ls sep)) []
theorem AeF (hA:EB (D 185)):EB (Body D KX):=by
 intro n h
 simp -implicitDefEqProofs
 refine Aa (hA n h) ?_
 simp -implicitDefEqProofs
def Hf (xs:List Int) (sep:List UInt8):List UInt8:=join (xs.map itoa) sep
theorem Akb (x:List UInt8) (r:List (List UInt8)) (y sep:List UInt8):join (x::r++ [y]) sep=join (x::r) sep++sep++y:=by
 rw[List.cons_append,join_cons,join_cons]
 simp[joinTail]
theorem Ai2 {xs:List Int} {sep:List UInt8} {j:Nat} (h:j<xs.length):Hf (xs.take (j+1)) sep=(if j=0 then []else Hf (xs.take j) sep++sep)++itoa xs[j]:=by
 have e:xs.take (j+1)=xs.take j++ [xs[j]]:=by simp
 unfold Hf
 rw[e,List.map_append]
 by_cases h0:j=0
 ·subst h0;simp[join_one]
 ·rw[if_neg h0]
  cases hx:xs.take j with
  | nil=>exact absurd (congrArg List.length hx) (by rw[List.length_take];simp only[List.length_nil];omega)
  | cons a r=>exact Akb _ _ _ _
theorem F9 {xs:List Int} {sep:List UInt8} (hr:DK xs) (hs:sep.length<=1):(Hf xs sep).length<=21*xs.length:=by
 have key:∀n,n<=xs.length->(Hf (xs.take n) sep).length<=21*n:=by
  intro n
  induction n with
  | zero=>intro _;simp[Hf,join_nil]
  | succ n ih=>
   intro h
   have h1:=ih (by omega)
   have h2:=E5 (hr xs[n] (by simp))
   rw[Ai2 (by omega)]
   split
   ·simp;omega
   ·simp;omega
 have:=key xs.length (Nat.le_refl _)
 rwa [List.take_length]at this
abbrev MJ:Prop:=∀(xs:List Int) (sep:List UInt8),xs.length<=4194304->DK xs->sep.length<=1->R [.sl 1 1 xs.length (ints xs),Sb sep] [] (Sb (Hf xs sep)) []
theorem AnL (hF:EB (D 120)) (hJ:Ane (D 241)):MJ (Body D OP):=by
 intro xs sep hl hr hs
 simp -implicitDefEqProofs
 refine Ag (fun k st=>∃j v4 o1 o2,j+k=xs.length/\st=⟨[.undef,Sb sep,.undef,.arr 3,v4,.sl 1 1 xs.length (ints xs),.sc (.int .i64 xs.length),.sc (.int .i64 j),.undef],[.free,o1,o2,.arr 1 0 j (strs ((xs.map itoa).take j))]⟩) ?_ xs.length _ ⟨0,.undef,.free,.free,by simp,by simp⟩
 intro k st ⟨j,v4,o1,o2,hj,hst⟩
 subst hst
 by_cases hjn:j<xs.length
 ·have hw:=Cv (j:=j) (by omega)
  have hjl:min j xs.length=j:=by omega
  have b1:(j+1)*16<=1099511627776:=by omega
  have hstep:strs ((xs.map itoa).take j++ [itoa xs[j]])=strs ((xs.map itoa).take (j+1)):=by
   rw[<-List.take_append_getElem (by simpa using hjn)];simp
  simp -implicitDefEqProofs [hjn]
  refine Aa (hF xs[j] (hr _ (by simp))) ?_
  simp -implicitDefEqProofs [hjl,b1]
  exact⟨k-1,by omega,j+1,by omega,by simp[hw],rfl,hstep⟩
 ·obtain rfl:j=xs.length:=by omega
  have e:(xs.map itoa).take xs.length=xs.map itoa:=List.take_of_length_le (by simp)
  have e2:(xs.map itoa).length=xs.length:=by simp
  have hj:=hJ (xs.map itoa) sep (by simpa using hl) (by have:=F9 hr hs;unfold Hf at this;omega)
  rw[e2]at hj
  simp -implicitDefEqProofs [e]
  refine Aa hj ?_
  simp -implicitDefEqProofs [Hf]
end Go.Eng.T
namespace Go.Eng.T
open Go.Lib
set_option maxRecDepth 20000
set_option maxHeartbeats 4000000
@[simp] theorem AKx (l:List UInt8) (i:Nat):(Ww l).data[i]? =l[i]? :=by
 show l.toArray[i]? =_
 simp
@[simp] theorem ALv (l:List UInt8) (i:Nat) (h:i<(Ww l).data.size):(Ww l).data[i]=l[i]'(by rwa [show(Ww l).data.size=l.length from ArQ l]at h):=by
 have e:=AKx l i
 rw[Array.getElem?_eq_getElem h,List.getElem?_eq_getElem (by rwa [show(Ww l).data.size=l.length from ArQ l]at h)]at e
 exact Option.some.inj e
@[simp] theorem AK6 (l:List UInt8):(Ww l).toList=l:=by
 rw[ByteArray.toList_eq]
 show l.toArray.toList=l
 simp
def wGo:List UInt8->List UInt8->List (List UInt8)
 | [],w=>if w=[]then []else [w]
 | c::r,w=>if c=32 then(if w=[]then wGo r []else w::wGo r [])else wGo r (w++ [c])
def Awt (l:List UInt8):List (List UInt8):=wGo l []
theorem AIW (w:List UInt8):wGo [] w=if w=[]then []else [w]:=by rw[wGo]
end Go.Eng.T
namespace Go.Eng.T
open Go.Lib
set_option maxRecDepth 20000
set_option maxHeartbeats 4000000
def AIy (c:UInt8):Bool:=decide (48<=(c.toNat:Int)/\(c.toNat:Int)<=57)
def AEb (l:List UInt8):Nat:=l.foldl (fun a c=>10*a+(c.toNat-48)) 0
def AsY (l:List UInt8):Bool:=decide (1<=(l.length:Int)/\(l.length:Int)<=13)&&l.all AIy&&decide (AEb l<=1000000000000)&&decide (itoa (AEb l)=l)
def Ave (l:List UInt8):Int:=if AsY l=true then(AEb l:Int)else 0
abbrev ABY (R:Rel):Prop:=∀l:List UInt8,l.length<=4194304->R [Sb l] [] (.tup [I (Ave l),B (AsY l)]) []
theorem AIV (l:List UInt8):Py (Ave l)/\0<=Ave l/\Ave l<=1000000000000:=by
 unfold Ave Py
 split
 ·rename_i h
  simp only[AsY,Bool.and_eq_true,decide_eq_true_eq]at h
  omega
 ·omega
end Go.Eng.T
namespace Go.Eng.T
open Go.Lib
set_option maxRecDepth 20000
set_option maxHeartbeats 4000000
@[simp] theorem ADW (xs:List (List UInt8)) (j:Nat):(strs xs)[j]? =(xs[j]?).map fun x=>Sb x:=by simp[strs]
@[simp] theorem ALk (xs:List (List UInt8)) (j:Nat) (h:j<(strs xs).length):(strs xs)[j]=Sb (xs[j]'(by simpa using h)):=by simp[strs]
def Au2 (ws:List (List UInt8)):Bool:=ws.all AsY
def numsOf (ws:List (List UInt8)):List Int:=ws.map Ave
theorem ADn (ws:List (List UInt8)):(numsOf ws).length=ws.length:=by simp[numsOf]
theorem AKJ (ws:List (List UInt8)):DK (numsOf ws):=by
 intro x hx
 obtain⟨w,_,rfl⟩:=List.mem_map.1 hx
 exact(AIV w).1
def ALs (ws:List (List UInt8)):Prop:=ws.length<=4194304/\∀w,w∈ws->w.length<=4194304
abbrev AIO (f:List (List UInt8)->List Int) (R:Rel):Prop:=∀ws,ALs ws->R [.sl 1 1 ws.length (strs ws)] [] (.tup [.sl 0 1 (f ws).length (ints (f ws)),B (Au2 ws)]) []
def ADv (ws:List (List UInt8)):List Int:=if Au2 ws=true then ws.map Ave else []
theorem AJ7 {ws:List (List UInt8)} (h:Au2 ws=true):ADv ws=numsOf ws:=by unfold ADv numsOf;rw[if_pos h]
theorem AKy {ws:List (List UInt8)} {j:Nat} (h:j<ws.length) (hn:AsY ws[j]=false):Au2 ws=false:=by
 unfold Au2
 rw[List.all_eq_false]
 exact⟨ws[j],List.getElem_mem h,by simp[hn]⟩
theorem AJo {ws:List (List UInt8)} {j:Nat} (h:j<ws.length):(ws.take (j+1)).all AsY=((ws.take j).all AsY&&AsY ws[j]):=by
 rw[<-List.take_append_getElem h,List.all_append];simp
theorem AKN {ws:List (List UInt8)} {j:Nat} (h:j<ws.length):(ws.map Ave).take (j+1)=(ws.map Ave).take j++ [Ave ws[j]]:=by
 rw[<-List.map_take,<-List.map_take,<-List.take_append_getElem h,List.map_append];rfl
variable (D:Dn)
theorem AGz (hP:ABY (D 104)):AIO ADv (Body D AvK):=by
 intro ws ⟨hl,hw1⟩
 simp -implicitDefEqProofs
 refine Ag (fun k s=>∃j o0 o1 o2,j+k=ws.length/\(ws.take j).all AsY=true/\s=⟨[.undef,.undef,.undef,.arr 3,.undef,.undef,.undef,.sl 1 1 ws.length (strs ws),I ws.length,I j,.undef,.undef],[o0,o1,o2,.arr 1 0 j (ints ((ws.map Ave).take j))]⟩) ?_ (ws.length) _ ⟨0,.free,.free,.free,by simp,by simp,by simp⟩
 intro k s ⟨j,o0,o1,o2,hj,ha,hs⟩
 subst hs
 by_cases hjn:j<ws.length
 ·have hw:=Cv (j:=j) (by omega)
  have hst:=AJo hjn
  have hps:=AKN hjn
  have hjl:min j ws.length=j:=by omega
  have b1:(j+1)*8<=1099511627776:=by omega
  simp -implicitDefEqProofs [hjn]
  refine Aa (hP ws[j] (hw1 _ (List.getElem_mem hjn))) ?_
  by_cases hn:AsY ws[j]=true
  ·have ha2:(ws.take (j+1)).all AsY=true:=by rw[hst,ha,hn];rfl
   simp -implicitDefEqProofs [hn,b1,hw,hjl]
   exact⟨k-1,by omega,j+1,by omega,by simpa using ha2,by rw[hps];simp⟩
  ·have hn':AsY ws[j]=false:=by simpa using hn
   have e2:=AKy hjn hn'
   simp -implicitDefEqProofs [hn',e2,ADv]
 ·obtain rfl:j=ws.length:=by omega
  have e2:Au2 ws=true:=by unfold Au2;rw[List.take_length]at ha;exact ha
  have e3:(ws.map Ave).take ws.length=ws.map Ave:=List.take_of_length_le (by simp)
  simp -implicitDefEqProofs [e2,ADv,e3]
def ACW:List (List UInt8)->List UInt8->Nat->Int
 | [],_,_=> -1
 | x::r,v,j=>if v=x then(j:Int)else ACW r v (j+1)
theorem AKO {xs:List (List UInt8)} {j:Nat} (h:j<xs.length) (v:List UInt8):ACW (xs.drop j) v j=if v=xs[j]then(j:Int)else ACW (xs.drop (j+1)) v (j+1):=by
 rw[List.drop_eq_getElem_cons h,ACW]
abbrev AC6 (R:Rel):Prop:=∀(xs:List (List UInt8)) (v:List UInt8),xs.length<=4194304->R [.sl 1 1 xs.length (strs xs),Sb v] [] (I (ACW xs v 0)) []
theorem AIv:AC6 (Body D AqZ):=by
 intro xs v hl
 simp -implicitDefEqProofs
 refine Ag (fun k s=>∃j,j+k=xs.length/\ACW (xs.drop j) v j=ACW xs v 0/\s=⟨[.sl 1 1 xs.length (strs xs),Sb v,.undef,.undef,I xs.length,I j,.undef,.undef],[]⟩) ?_ (xs.length) _ ⟨0,by simp,by simp,by simp⟩
 intro k s ⟨j,hj,hi,hs⟩
 subst hs
 by_cases hjn:j<xs.length
 ·have hw:=Cv (j:=j) (by omega)
  have hat:=AKO hjn v
  by_cases he:v=xs[j]
  ·rw[if_pos he,hi]at hat
   simp -implicitDefEqProofs [hjn,<-he,hat]
  ·rw[if_neg he,hi]at hat
   simp -implicitDefEqProofs [hjn,he,hw]
   exact⟨k-1,by omega,j+1,by omega,hat.symm,by simp⟩
 ·have hx:ACW xs v 0= -1:=by rw[<-hi,List.drop_of_length_le (by omega)];rfl
  simp -implicitDefEqProofs [hjn,hx]
def AsO:EG:=⟨0,[],[],false⟩
def kindOf (w:List UInt8):Int:=
 if w=[100,105,97,108]then 1 else if w=[115,116,97,114,116]then 2 else if w=[115,116,97,103,101]then 3 else if w=[114,101,116,105,114,101]then 4
 else if w=[114,101,118,105,118,101]then 5 else if w=[99,108,101,97,114]then 7 else if w=[116,105,99,107]then 8 else 0
def Aww (k:Int) (n:Nat):Bool:=(decide (k=2∨k=3)&&decide (n=0))||(!decide (k=2∨k=3)&&decide (n=1))
def Ark (w:List UInt8) (n:List Int):Event:=
 if w=[108,105,109,105,116]/\n.length=2 then⟨6,n.getD 0 0,⟨n.getD 1 0,[],[],false⟩⟩
 else if w=[115,116,114,105,112]/\n.length=2 then⟨6,n.getD 0 0,⟨0,[],[n.getD 1 0],false⟩⟩
 else if 0<kindOf w/\Aww (kindOf w) n.length=true then⟨kindOf w,n.getD 0 0,AsO⟩else⟨0,0,AsO⟩
theorem AIT (w:List UInt8):0<=kindOf w/\kindOf w<=8/\kindOf w≠6:=by
 unfold kindOf
 repeat' split
 all_goals omega
abbrev AyW (R:Rel):Prop:=∀(w:List UInt8) (n:List Int),n.length<=4194304->w≠ []->R [Sb w,.sl 1 1 n.length (ints n)] [] (.tup [.agg (BJ (Ark w n)),B (decide (0<(Ark w n).kind))]) []
theorem ALh {n:List Int} (h:n.length=2):∃a b,n=[a,b]:=by
 match n,h with
 | [a,b],_=>exact⟨a,b,rfl⟩
theorem AJN {n:List Int} (h:n.length=1):∃a,n=[a]:=by
 match n,h with
 | [a],_=>exact⟨a,rfl⟩
def names8:List (List UInt8):=[[100,105,97,108],[115,116,97,114,116],[115,116,97,103,101],[114,101,116,105,114,101],[114,101,118,105,118,101],[],[99,108,101,97,114],[116,105,99,107]]
theorem AJ2 {w:List UInt8} (h:w≠ []):ACW names8 w 0+1=kindOf w:=by
 unfold names8 kindOf
 simp only[ACW]
 rw[if_neg h]
 repeat' split
 all_goals rfl
theorem AKf {w:List UInt8} {a b:Int} (h:w=[108,105,109,105,116]):Ark w [a,b]=⟨6,a,⟨b,[],[],false⟩⟩:=by subst h;rfl
theorem AKn {w:List UInt8} {a b:Int} (h:w=[115,116,114,105,112]):Ark w [a,b]=⟨6,a,⟨0,[],[b],false⟩⟩:=by subst h;rfl
theorem AC3 {w:List UInt8} {n:List Int} (h1:¬(w=[108,105,109,105,116]/\n.length=2)) (h2:¬(w=[115,116,114,105,112]/\n.length=2)):
 Ark w n=if 0<kindOf w/\Aww (kindOf w) n.length=true then⟨kindOf w,n.getD 0 0,AsO⟩else⟨0,0,AsO⟩:=by
 unfold Ark;rw[if_neg h1,if_neg h2]
theorem AJj (hI:AC6 (D 105)):AyW (Body D AwS):=by
 intro w n hn hw0
 have hidx:=hI names8 w (by decide)
 have hx:=AJ2 hw0
 have hkr:=AIT w
 have hwk:IntKind.i64.wrap (ACW names8 w 0+1)=kindOf w:=by rw[hx,Ad (by omega) (by omega)]
 generalize ACW names8 w 0=i at hidx hwk
 simp -implicitDefEqProofs
 refine Aa (show _ from hidx) ?_
 clear hidx hx
 by_cases l2:n.length=2
 ·obtain⟨a,b,rfl⟩:=ALh l2
  by_cases c1:w=[108,105,109,105,116]
  ·have he:=AKf (a:=a) (b:=b) c1
   simp -implicitDefEqProofs [hwk,c1]at he⊢
   simp -implicitDefEqProofs [he,BJ]
  ·by_cases c2:w=[115,116,114,105,112]
   ·have he:=AKn (a:=a) (b:=b) c2
    simp -implicitDefEqProofs [hwk,c2]at he⊢
    simp -implicitDefEqProofs [he,BJ,ints]
   ·have he:=AC3 (w:=w) (n:=[a,b]) (by simp[c1]) (by simp[c2])
    rw[he]
    clear he
    generalize kindOf w=kk at hkr hwk
    by_cases k2:kk=2
    ·subst k2
     simp -implicitDefEqProofs [hwk,c1,c2,Aww,BJ,AsO,ints]
    by_cases k3:kk=3
    ·subst k3
     simp -implicitDefEqProofs [hwk,c1,c2,Aww,BJ,AsO,ints]
    by_cases kp:0<kk
    all_goals simp -implicitDefEqProofs [hwk,c1,c2,k2,k3,kp,Aww,BJ,AsO,ints]
 ·have l2':¬(n.length:Int)=2:=by omega
  have he:=AC3 (w:=w) (n:=n) (by simp[l2]) (by simp[l2])
  rw[he]
  clear he
  generalize kindOf w=kk at hkr hwk
  by_cases l0:n.length=0
  ·obtain rfl:n=[]:=List.eq_nil_of_length_eq_zero l0
   by_cases k2:kk=2
   ·subst k2
    by_cases c1:w=[108,105,109,105,116]<;>by_cases c2:w=[115,116,114,105,112]
    all_goals simp -implicitDefEqProofs [hwk,c1,c2,Aww,BJ,AsO,ints,l0]
   by_cases k3:kk=3
   ·subst k3
    by_cases c1:w=[108,105,109,105,116]<;>by_cases c2:w=[115,116,114,105,112]
    all_goals simp -implicitDefEqProofs [hwk,c1,c2,Aww,BJ,AsO,ints,l0]
   by_cases kp:0<kk<;>by_cases c1:w=[108,105,109,105,116]<;>by_cases c2:w=[115,116,114,105,112]
   all_goals simp -implicitDefEqProofs [hwk,c1,c2,k2,k3,kp,Aww,BJ,AsO,ints,l0]
  ·have l0':¬(n.length:Int)=0:=by omega
   by_cases l1:n.length=1
   ·obtain⟨a,rfl⟩:=AJN l1
    by_cases k2:kk=2
    ·subst k2
     by_cases c1:w=[108,105,109,105,116]<;>by_cases c2:w=[115,116,114,105,112]
     all_goals simp -implicitDefEqProofs [hwk,c1,c2,Aww,BJ,AsO,ints,l1]
    by_cases k3:kk=3
    ·subst k3
     by_cases c1:w=[108,105,109,105,116]<;>by_cases c2:w=[115,116,114,105,112]
     all_goals simp -implicitDefEqProofs [hwk,c1,c2,Aww,BJ,AsO,ints,l1]
    by_cases kp:0<kk<;>by_cases c1:w=[108,105,109,105,116]<;>by_cases c2:w=[115,116,114,105,112]
    all_goals simp -implicitDefEqProofs [hwk,c1,c2,k2,k3,kp,Aww,BJ,AsO,ints,l1]
   ·have l1':¬(n.length:Int)=1:=by omega
    by_cases k2:kk=2
    ·subst k2
     by_cases c1:w=[108,105,109,105,116]<;>by_cases c2:w=[115,116,114,105,112]
     all_goals simp -implicitDefEqProofs [hwk,c1,c2,Aww,BJ,AsO,ints,l0,l1,l2,l0',l1',l2']
    by_cases k3:kk=3
    ·subst k3
     by_cases c1:w=[108,105,109,105,116]<;>by_cases c2:w=[115,116,114,105,112]
     all_goals simp -implicitDefEqProofs [hwk,c1,c2,Aww,BJ,AsO,ints,l0,l1,l2,l0',l1',l2']
    by_cases kp:0<kk<;>by_cases c1:w=[108,105,109,105,116]<;>by_cases c2:w=[115,116,114,105,112]
    all_goals simp -implicitDefEqProofs [hwk,c1,c2,k2,k3,kp,Aww,BJ,AsO,ints,l0,l1,l2,l0',l1',l2']
end Go.Eng.T
namespace Go.Eng.T
open Go.Lib
set_option maxRecDepth 20000
set_option maxHeartbeats 4000000
abbrev AIM (R:Rel):Prop:=∀b:Bool,R [B b] [] (Sb (if b=true then [111,107]else [110,111])) []
theorem AK2 (D:Dn):AIM (Body D AzT):=by
 intro b
 cases b<;>simp -implicitDefEqProofs
end Go.Eng.T
namespace Go.Eng.T
open Go.Lib
set_option maxRecDepth 20000
set_option maxHeartbeats 1000000
theorem ifS {α:Type} {a:Nat} {c d:α} (h:a<=1099511627776):(if a<=1099511627776 then c else d)=c:=if_pos h
theorem ifL {α:Type} {a:Nat} {c d:α} (h:a<1099511627776):(if a<1099511627776 then c else d)=c:=if_pos h
def fmtList (xs:List Int):List UInt8:=if xs=[]then [45]else Hf xs [32]
theorem M0 {xs:List Int} (hr:DK xs):(fmtList xs).length<=21*xs.length+1:=by
 unfold fmtList
 split
 ·simp
 ·have:=F9 (sep:=[32]) hr (by simp);omega
variable (R:Rel)
abbrev Kb:Prop:=∀xs:List Int,xs.length<=4194304->DK xs->R [.sl 1 1 xs.length (ints xs)] [] (Sb (fmtList xs)) []
variable (D:Dn)
theorem Acs (hJ:MJ (D 187)):Kb (Body D Jz):=by
 intro xs hl hr
 by_cases h0:xs=[]
 ·subst h0;simp -implicitDefEqProofs [fmtList]
 ·have h0':¬(xs.length:Int)=0:=by have:=List.length_pos_iff.2 h0;omega
  simp -implicitDefEqProofs [h0,h0',fmtList]
  refine Aa (hJ xs [32] hl hr (by simp)) ?_
  simp -implicitDefEqProofs
def GH (d:Aaf):List UInt8:=if d.ok=true then [118]++itoa d.version++(if d.tags=[]then []else [58]++Hf d.tags [44])else [110,111]
theorem X9 {d:Aaf} (hv:Py d.version) (hr:DK d.tags):(GH d).length<=21*d.tags.length+23:=by
 have h1:=E5 hv
 have h2:=F9 (sep:=[44]) hr (by simp)
 unfold GH
 split
 ·split<;>simp<;>omega
 ·simp
abbrev J5:Prop:=∀d:Aaf,d.tags.length<=4194304->Py d.version->DK d.tags->R [arg (AfJ d)] [] (Sb (GH d)) []
theorem Ac2 (hF:EB (D 120)) (hJ:MJ (D 187)):J5 (Body D Ji):=by
 intro d hl hv hr
 have h1:=E5 hv
 have h2:=F9 (sep:=[44]) hr (by simp)
 by_cases ho:d.ok=true
 rotate_left
 ·simp -implicitDefEqProofs [ho,GH]
 simp -implicitDefEqProofs [ho]
 refine Aa (hF d.version hv) ?_
 by_cases h0:d.tags=[]
 ·simp -implicitDefEqProofs (disch:=first | omega | simp) [ifS,ifL,h0,ho,GH]
 ·have h0':(0:Int)<d.tags.length:=by have:=List.length_pos_iff.2 h0;omega
  have h0'':0<d.tags.length:=List.length_pos_iff.2 h0
  simp -implicitDefEqProofs (disch:=first | omega | simp) [ifS,ifL,h0,h0',h0'',ho,GH]
  refine Aa (hJ d.tags [44] hl hr (by simp)) ?_
  simp -implicitDefEqProofs (disch:=first | omega | simp) [ifS,ifL,h0,h0',ho,GH]
def F8 (d:BP):List UInt8:=GH d.deal++ [47]++itoa d.tries++(if d.up=[]then []else [33]++Hf d.up [44])
abbrev JM:Prop:=∀d:BP,d.deal.tags.length<=4194304->d.up.length<=4194304->Py d.deal.version->DK d.deal.tags->Py d.tries->DK d.up->R [arg (AB d)] [] (Sb (F8 d)) []
theorem YH (hF:EB (D 120)) (hJ:MJ (D 187)) (hD:J5 (D 192)):JM (Body D HY):=by
 intro d hl hl2 hv hr hv2 hr2
 have h1:=E5 hv2
 have h2:=F9 (sep:=[44]) hr2 (by simp)
 have h3:=X9 hv hr
 simp -implicitDefEqProofs
 refine Aa (hD d.deal hl hv hr) ?_
 simp -implicitDefEqProofs (disch:=first | omega | simp) [ifS,ifL,F8]
 refine Aa (hF d.tries hv2) ?_
 by_cases h0:d.up=[]
 ·simp -implicitDefEqProofs (disch:=first | omega | simp) [ifS,ifL,h0,F8]
 ·have h0':(0:Int)<d.up.length:=by have:=List.length_pos_iff.2 h0;omega
  have h0'':0<d.up.length:=List.length_pos_iff.2 h0
  simp -implicitDefEqProofs (disch:=first | omega | simp) [ifS,ifL,h0,h0',h0'',F8]
  refine Aa (hJ d.up [44] hl2 hr2 (by simp)) ?_
  simp -implicitDefEqProofs (disch:=first | omega | simp) [ifS,ifL,h0,h0',h0'',F8]
def FD (r:AX):List UInt8:=[118]++itoa r.version++ [32]++Hf r.stages [44]++(if r.off=true then [111,102,102]else [64]++itoa r.pos)
theorem QZ {r:AX} (hv:Py r.version) (hr:DK r.stages) (hp:Py r.pos):(FD r).length<=21*r.stages.length+50:=by
 have h1:=E5 hv
 have h2:=F9 (sep:=[44]) hr (by simp)
 have h3:=E5 hp
 unfold FD
 split<;>simp<;>omega
abbrev Gy:Prop:=∀r:AX,r.stages.length<=4194304->Py r.version->DK r.stages->Py r.pos->R [arg (Dj r)] [] (Sb (FD r)) []
theorem WS (hF:EB (D 120)) (hJ:MJ (D 187)):Gy (Body D GY):=by
 intro r hl hv hr hp
 have h1:=E5 hv
 have h2:=F9 (sep:=[44]) hr (by simp)
 have h3:=E5 hp
 simp -implicitDefEqProofs
 refine Aa (hF r.version hv) ?_
 simp -implicitDefEqProofs (disch:=first | omega | simp) [ifS,ifL,FD]
 refine Aa (hJ r.stages [44] hl hr (by simp)) ?_
 by_cases ho:r.off=true
 ·simp -implicitDefEqProofs (disch:=first | omega | simp) [ifS,ifL,ho,FD]
 ·simp -implicitDefEqProofs (disch:=first | omega | simp) [ifS,ifL,ho,FD]
  refine Aa (hF r.pos hp) ?_
  simp -implicitDefEqProofs (disch:=first | omega | simp) [ifS,ifL,ho,FD]
def OI (e:Ai):List UInt8:=fmtList e.versions++ [124]++fmtList e.tags++ [124]++itoa (e.path.length:Int)
abbrev Pm:Prop:=∀e:Ai,e.versions.length<=4194304->DK e.versions->e.tags.length<=4194304->DK e.tags->e.path.length<=4194304->R [arg (Ah e)] [] (Sb (OI e)) []
theorem AeL (hF:EB (D 120)) (hL:Kb (D 122)):Pm (Body D KQ):=by
 intro e hl1 hr1 hl2 hr2 hp
 have hn:Py (e.path.length:Int):=by unfold Py;omega
 have h1:=M0 hr1
 have h2:=M0 hr2
 have h3:=E5 hn
 simp -implicitDefEqProofs
 refine Aa (hL e.versions hl1 hr1) ?_
 simp -implicitDefEqProofs (disch:=first | omega | simp) [ifS,ifL,OI]
 refine Aa (hL e.tags hl2 hr2) ?_
 simp -implicitDefEqProofs (disch:=first | omega | simp) [ifS,ifL,OI]
 refine Aa (hF (e.path.length:Int) hn) ?_
 simp -implicitDefEqProofs (disch:=first | omega | simp) [ifS,ifL,OI]
end Go.Eng.T
namespace Go.Eng.T
open Go.Lib
set_option maxRecDepth 20000
set_option maxHeartbeats 2000000
def VE (w:World):List UInt8:=itoa w.now++ [32]++Hf w.server [44]++ [32]++FD w.rollout++ [32]++Hf [(w.ends.length:Int),(w.log.length:Int),w.hurt] [32]
abbrev K9 (R:Rel):Prop:=∀w:World,w.server.length<=4194304->DK w.server->w.rollout.stages.length<=4194304->Py w.rollout.version->DK w.rollout.stages->Py w.rollout.pos->w.ends.length<=4194304->w.log.length<=4194304->Py w.now->Py w.hurt->R [arg (Bu w)] [] (Sb (VE w)) []
theorem Abo (D:Dn) (hF:EB (D 120)) (hJ:MJ (D 187)) (hR:Gy (D 199)):K9 (Body D IA):=by
 intro w hs hrs hst hv hrst hp he hlg hn hh
 have n1:Py (w.ends.length:Int):=by unfold Py;omega
 have n2:Py (w.log.length:Int):=by unfold Py;omega
 have n3:DK [(w.ends.length:Int),(w.log.length:Int),w.hurt]:=by
  intro x hx
  simp only[List.mem_cons,List.not_mem_nil,or_false]at hx
  rcases hx with rfl | rfl | rfl
  ·exact n1
  ·exact n2
  ·exact hh
 have l1:=E5 hn
 have l2:=F9 (sep:=[44]) hrs (by simp)
 have l3:=QZ hv hrst hp
 have l4:=E5 n1
 have l5:=E5 n2
 have l6:=E5 hh
 have hj:=hJ [(w.ends.length:Int),(w.log.length:Int),w.hurt] [32] (by simp) n3 (by simp)
 have l7:=F9 (sep:=[32]) n3 (by simp)
 generalize hjj:Hf [(w.ends.length:Int),(w.log.length:Int),w.hurt] [32]=jj at hj l7
 simp at l7
 simp -implicitDefEqProofs
 refine Aa (hF w.now hn) ?_
 simp -implicitDefEqProofs (disch:=first | omega | simp) [ifS,ifL]
 refine Aa (hJ w.server [44] hs hrs (by simp)) ?_
 simp -implicitDefEqProofs (disch:=first | omega | simp) [ifS,ifL]
 refine Aa (hR w.rollout hst hv hrst hp) ?_
 simp -implicitDefEqProofs (disch:=first | omega | simp) [ifS,ifL]
 refine Aa hj ?_
 simp -implicitDefEqProofs (disch:=first | omega | simp) [ifS,ifL,VE,hjj]
end Go.Eng.T
namespace Go.Eng.T
set_option maxRecDepth 20000
set_option maxHeartbeats 2000000
def through (b:EG) (h:Hello):Bool:=IL b&&(Dt h&& !PK b h)&&h.exts.all fun x=>stays b x.tag
theorem AlW {l:List Ext}:Ej l=true↔((∀x,x∈l->SY x=true)/\l.Pairwise (fun x y=>x.tag≠y.tag))/\l.length<=6:=by
 unfold Ej
 rw[Bool.and_eq_true,decide_eq_true_eq,V7]
 have key:(∀i,i<l.length->Qo l i=true)↔((∀x,x∈l->SY x=true)/\l.Pairwise (fun x y=>x.tag≠y.tag)):=by
  constructor
  ·intro h
   refine⟨fun x hx=> ?_,List.pairwise_iff_getElem.2 fun i j hi hj hij=> ?_⟩
   ·obtain⟨i,hi,rfl⟩:=List.getElem_of_mem hx
    have:=h i hi
    rw[Oo hi,Bool.and_eq_true]at this
    exact this.1
   ·have:=h j hj
    rw[Oo hj,Bool.and_eq_true,Bool.not_eq_true',List.any_eq_false]at this
    have:=this.2 l[i] (List.mem_take_iff_getElem.2 ⟨i,by omega,rfl⟩)
    unfold Gq at this
    simpa using this
  ·rintro ⟨h1,h2⟩ i hi
   rw[Oo hi,Bool.and_eq_true,Bool.not_eq_true',List.any_eq_false]
   refine⟨h1 _ (List.getElem_mem hi),fun x hx=> ?_⟩
   obtain⟨j,hj,rfl⟩:=List.mem_take_iff_getElem.1 hx
   have:=List.pairwise_iff_getElem.1 h2 j i (by omega) hi (by omega)
   unfold Gq
   simpa using this
 rw[key]
theorem Ank (a b:List Int):(leftOf a b).Sublist a:=List.filter_sublist
theorem AJQ {s l:List Int} (h:¬AJ s l=0):AJ s l∈l/\AQ l=true:=by
 unfold AJ at h⊢
 split at h
 ·rename_i hv
  rw[if_pos hv]
  have h0:0<(common s l).length:=by
   rcases Nat.eq_zero_or_pos (common s l).length with e | e
   ·rw[List.eq_nil_of_length_eq_zero e]at h;exact absurd rfl h
   ·exact e
  have e:=Akj (l:=common s l) ((Ru hv.1).sublist List.filter_sublist) (fun x hx=>by have:=(RF hv.1) x (List.mem_filter.1 hx).1;omega) h0
  rw[e]
  have:=List.getElem_mem (l:=common s l) (n:=(common s l).length-1) (by omega)
  exact⟨by simpa using(List.mem_filter.1 this).2,hv.2⟩
 ·exact absurd rfl h
set_option maxHeartbeats 1000000
def Axb (l:List Int):Bool:=decide (l.length<=10)&&allIn l 0 10000
variable (R:Rel)
abbrev Axm:Prop:=∀l:List Int,l.length<=maxLen->R [.sl 1 1 l.length (ints l)] [] (B (Axb l)) []
variable (D:Dn)
theorem AGc (hN:AsS (D 233)):Axm (Body D Avx):=by
 intro l hl
 by_cases h5:l.length<=10
 ·have h5':(l.length:Int)<=10:=by omega
  simp -implicitDefEqProofs [h5']
  refine Aa (hN _ _ _ hl) ?_
  simp -implicitDefEqProofs [Axb,h5]
 ·have h5':¬(l.length:Int)<=10:=by omega
  simp -implicitDefEqProofs [h5',Axb,h5]
def AAw (l:List Int) (n:Int):Bool:=Axb l&&decide (M6 n 0 10000)
abbrev Az5:Prop:=∀(l:List Int) (n:Int),l.length<=maxLen->R [.sl 1 1 l.length (ints l),I n] [] (B (AAw l n)) []
theorem AJv (hA:Axm (D 275)) (hI:Vf (D 114)):Az5 (Body D Aw1):=by
 intro l n hl
 simp -implicitDefEqProofs
 refine Aa (hA l hl) ?_
 by_cases h1:Axb l=true
 rotate_left
 ·simp -implicitDefEqProofs [h1,AAw]
 simp -implicitDefEqProofs [h1]
 refine Aa (hI _ _ _) ?_
 simp -implicitDefEqProofs [h1,AAw]
def Ax6 (n x:Int):Int:=if x<n then 0 else x
def Atw (l:List Int) (n:Int):List Int:=if AAw l n=true then l.map (Ax6 n)else []
abbrev AxN:Prop:=∀(l:List Int) (n:Int),l.length<=4194304->R [.sl 1 1 l.length (ints l),I n] [] (.sl 0 1 (Atw l n).length (ints (Atw l n))) []
theorem AJc {l:List Int} {n:Int} {j:Nat} (h:j<l.length):(l.take (j+1)).map (Ax6 n)=(l.take j).map (Ax6 n)++ [Ax6 n l[j]]:=by
 have e:l.take (j+1)=l.take j++ [l[j]]:=by simp
 rw[e,List.map_append];rfl
theorem AFE (hC:Az5 (D 243)):AxN (Body D AvL):=by
 intro l n hl
 have hl':l.length<=maxLen:=by unfold maxLen;omega
 simp -implicitDefEqProofs
 refine Aa (hC l n hl') ?_
 by_cases hc:AAw l n=true
 rotate_left
 ·have e:Atw l n=[]:=by unfold Atw;rw[if_neg hc]
  rw[e]
  simp -implicitDefEqProofs [hc]
 have e:Atw l n=l.map (Ax6 n):=by unfold Atw;rw[if_pos hc]
 rw[e]
 simp -implicitDefEqProofs [hc]
 refine Ag (fun k s=>∃j o1 o2,j+k=l.length/\s=⟨[.undef,I n,.undef,.arr 3,.undef,.undef,.sl 1 1 l.length (ints l),I l.length,I j,.undef,.undef],[.free,o1,o2,.arr 1 0 j (ints ((l.take j).map (Ax6 n)))]⟩) ?_ (l.length) _ ⟨0,.free,.free,by simp,by simp⟩
 intro k s ⟨j,o1,o2,hj,hs⟩
 subst hs
 by_cases hjn:j<l.length
 ·have hw:=Cv (j:=j) (by omega)
  have hst:=AJc (n:=n) hjn
  rw[List.map_take,List.map_take]at hst
  have hbd:(j+1)*8<=1099511627776:=by omega
  by_cases h3:l[j]<n
  ·have e3:Ax6 n l[j]=0:=by unfold Ax6;rw[if_pos h3]
   simp -implicitDefEqProofs [hjn,h3,hbd]
   exact⟨k-1,by omega,j+1,by omega,by simp[hw],rfl,by rw[hst,e3]⟩
  ·have e3:Ax6 n l[j]=l[j]:=by unfold Ax6;rw[if_neg h3]
   simp -implicitDefEqProofs [hjn,h3,hbd]
   exact⟨k-1,by omega,j+1,by omega,by simp[hw],rfl,by rw[hst,e3]⟩
 ·obtain rfl:j=l.length:=by omega
  simp -implicitDefEqProofs
def AFs (w:World) (v:Nat) (i:Nat):Bool:=decide (AsR w i=(v:Int))
def ABm (w:World) (v j:Nat):Int:=(AI3 (AFs w v) j:Nat)
def ABd (w:World) (j:Nat):List Int:=(List.range 10).map fun v=>ABm w v j
def Ars (w:World):List Int:=ABd w w.ends.length
theorem Axi (w:World) (j:Nat):(ABd w j).length=10:=by simp[ABd]
theorem AJK {w:World} {j b:Nat} (h:b<(ABd w j).length):(ABd w j)[b]=ABm w b j:=by simp[ABd]
abbrev Atq:Prop:=∀w:World,Af w<=4194304->R [arg (Bu w)] [] (.sl 0 1 (Ars w).length (ints (Ars w))) []
theorem AJA (w:World) (v j:Nat):ABm w v (j+1)=ABm w v j+(if AsR w j=(v:Int)then 1 else 0):=by
 unfold ABm
 simp only[AI3,AFs]
 by_cases h:AsR w j=(v:Int)<;>simp[h]
theorem AKD (w:World) (v j:Nat):0<=ABm w v j/\ABm w v j<=j:=by
 have:=AF4 (AFs w v) j
 unfold ABm;omega
theorem AHQ (a b:List Int):0<=AJ a b/\AJ a b<=9:=by
 unfold AJ
 split
 ·rename_i h
  by_cases h3:common a b=[]
  ·rw[h3];simp[Sw]
  ·have h4:0<(common a b).length:=List.length_pos_iff.2 h3
   have h5:=Akj (l:=common a b) ((Ru h.1).filter _) (fun x hx=>by have:=RF h.1 x (List.mem_filter.1 hx).1;omega) h4
   rw[h5]
   have:=RF h.1 _ (List.mem_filter.1 (List.getElem_mem (l:=common a b) (n:=(common a b).length-1) (by omega))).1
   omega
 ·simp
theorem AEk (w:World) (i:Int):0<=AsR w i/\AsR w i<=9:=by
 unfold AsR
 split
 ·split
  ·unfold Axs
   split
   ·exact AHQ _ _
   ·simp
  ·simp
 ·simp
theorem AH5 (w:World) (j b:Nat) (h:AsR w j=(b:Int)):(ABd w j).set b (ABm w b j+1)=ABd w (j+1):=by
 unfold ABd
 apply List.ext_getElem
 ·simp
 ·intro n h1 h2
  simp only[List.length_map,List.length_range]at h2
  rw[List.getElem_set]
  simp only[List.getElem_map,List.getElem_range,AJA,h]
  by_cases hn:b=n
  ·subst hn;simp
  ·rw[if_neg hn,if_neg (by omega)];simp
theorem ABE (hB:Ayv (D 119)):Atq (Body D AtB):=by
 intro w hsz
 have hl:=FE hsz
 have hres:Ars w=ABd w w.ends.length:=rfl
 rw[hres,Axi]
 simp -implicitDefEqProofs
 refine Ag (fun k s=>∃j,j+k=w.ends.length/\s=⟨[.undef,.ptr 0 0,.undef,.arr 1,.undef,I w.ends.length,I j,.undef],[.var ((Bu w).map (AO 1)),.arr 1 0 10 (ints (ABd w j))]⟩) ?_ (w.ends.length) _ ⟨0,by simp,by simp[ABd,ABm,AI3,List.range,List.range.loop,ints]⟩
 intro k s ⟨j,hj,hs⟩
 subst hs
 by_cases hjn:j<w.ends.length
 ·have hw:=Cv (j:=j) (by omega)
  simp -implicitDefEqProofs [hjn]
  refine Aa (hB w j hsz) ?_
  have hr:=AEk w j
  obtain⟨b,hb⟩:∃b:Nat,AsR w j=(b:Int):=⟨(AsR w j).toNat,by omega⟩
  have hb9:b<10:=by omega
  have hb9i:(b:Int)<10:=by omega
  have hb9':b<(ABd w j).length:=by rw[Axi];exact hb9
  have hset:=AH5 w j b hb
  have hc:=AKD w b j
  have hwc:IntKind.i64.wrap (ABm w b j+1)=ABm w b j+1:=Ad (by omega) (by omega)
  rw[hb]
  simp -implicitDefEqProofs [Axi,hb9,hb9i,hb9',AJK hb9',hwc]
  exact⟨k-1,by omega,j+1,by omega,by simp[hw],by rw[hset]⟩
 ·obtain rfl:j=w.ends.length:=by omega
  simp -implicitDefEqProofs
def Atf (w:World) (n:Int):List Int:=Atw (Ars w) n
abbrev AxK:Prop:=∀(w:World) (n:Int),Af w<=4194304->R [arg (Bu w),I n] [] (.sl 0 1 (Atf w n).length (ints (Atf w n))) []
theorem AFM (hV:Atq (D 130)) (hH:AxN (D 191)):AxK (Body D Avo):=by
 intro w n hsz
 simp -implicitDefEqProofs
 refine Aa (hV w hsz) ?_
 simp -implicitDefEqProofs
 refine Aa (hH (Ars w) n (by rw[Ars,Axi];omega)) ?_
 simp -implicitDefEqProofs [Atf]
set_option maxHeartbeats 1000000
def At0 (j:Nat):Int:=10+16*(j:Int)
def AAh:List Int:=(List.range 16).map At0
theorem AJt (j:Nat):(List.range (j+1)).map At0=(List.range j).map At0++ [At0 j]:=by rw[List.range_succ,List.map_append];rfl
abbrev Ayr:Prop:=R [] [] (.sl 0 1 16 (ints AAh)) []
theorem ADe:Ayr (Body D AtS):=by
 have hres:AAh=(List.range 16).map At0:=rfl
 unfold Ayr
 rw[hres]
 simp -implicitDefEqProofs
 refine Ag (fun k s=>∃j o1 o2,j+k=16/\s=⟨[.undef,.arr 3,I (At0 j),.undef],[.free,o1,o2,.arr 1 0 j (ints ((List.range j).map At0))]⟩) ?_ (16) _ ⟨0,.free,.free,by simp,by simp[At0]⟩
 intro k s ⟨j,o1,o2,hj,hs⟩
 subst hs
 by_cases hjn:j<16
 ·have hst:=AJt j
  have hlt:At0 j<256:=by unfold At0;omega
  have hw:IntKind.i64.wrap (At0 j+16)=At0 (j+1):=by unfold At0;rw[Ad (by omega) (by omega)];omega
  have hbd:(j+1)*8<=1099511627776:=by omega
  simp -implicitDefEqProofs [hlt,hbd]
  exact⟨k-1,by omega,j+1,by omega,by simp[hw],rfl,by rw[hst]⟩
 ·obtain rfl:j=16:=by omega
  have hlt:¬At0 16<256:=by unfold At0;omega
  simp -implicitDefEqProofs [hlt]
def AKG (b:EG) (t:Int):Bool:= !(BV b ⟨[1],[⟨t,[]⟩]⟩).2||decide ((BV b ⟨[1],[⟨t,[]⟩]⟩).1.exts=[])
def refuses (b:EG):Bool:=IL b&&AAh.any (AKG b)
abbrev AA9:Prop:=∀b:EG,Kh b->R [arg (DT b)] [] (B (refuses b)) []
abbrev AyL:Prop:=∀(t:Int) (b:EG),Kh b->R [I t,.rptr 1 (DT b) 0] [] (B (AKG b t)) []
theorem ALb (t:Int):hB ⟨[1],[⟨t,[]⟩]⟩:=⟨by simp,by simp,by simp⟩
theorem AIj (hP:Vm (D 294)):AyL (Body D Ati):=by
 intro t b hb
 have hq:AKG b t=(!(BV b ⟨[1],[⟨t,[]⟩]⟩).2||decide ((BV b ⟨[1],[⟨t,[]⟩]⟩).1.exts=[])):=rfl
 rw[hq]
 simp -implicitDefEqProofs
 refine Aa (hP b ⟨[1],[⟨t,[]⟩]⟩ hb (ALb t)) ?_
 generalize BV b ⟨[1],[⟨t,[]⟩]⟩=r
 by_cases h1:r.2=true
 ·by_cases h2:r.1.exts=[]
  ·simp -implicitDefEqProofs [h1,h2,Aqs]
  ·simp -implicitDefEqProofs [h1,h2,Aqs]
 ·simp -implicitDefEqProofs [h1]
theorem AHK (hX:XD (D 183)) (hT:Ayr (D 276)) (h1':AyL (D 277)) (hC:Ate D (D 267)):AA9 (Body D AtA):=by
 intro b hb
 simp -implicitDefEqProofs
 refine Aa (hX b hb) ?_
 by_cases h1:IL b=true
 rotate_left
 ·simp -implicitDefEqProofs [h1,refuses]
 simp -implicitDefEqProofs [h1]
 refine Aa (hT) ?_
 simp -implicitDefEqProofs
 refine Aa (hC AAh 277 _ (AKG b) (by unfold maxLen;simp[AAh]) (AyM Api) (fun t=>h1' t b hb)) ?_
 simp -implicitDefEqProofs [refuses,h1]
def At8 (path:List EG):List Int:=Le refuses path 0
abbrev Axz:Prop:=∀path:List EG,lnS Kh path->path.length<=4194304->R [.sl 1 4 path.length (path.flatMap DT)] [] (.sl 0 1 (At8 path).length (ints (At8 path))) []
theorem AFz (hR:AA9 (D 244)):Axz (Body D AtF):=by
 intro path hb hl
 have hres:At8 path=Le refuses path 0:=rfl
 rw[hres]
 simp -implicitDefEqProofs
 refine Ag (fun k s=>∃j v3 o1 o2 o3,j+k=path.length/\s=⟨[.undef,.undef,.arr 4,v3,.undef,.sl 1 4 path.length (path.flatMap DT),I path.length,I j,.undef,.undef],[.free,o1,o2,o3,.arr 1 0 (Le refuses (path.take j) 0).length (ints (Le refuses (path.take j) 0))]⟩) ?_ (path.length) _ ⟨0,.undef,.free,.free,.free,by simp,by simp[Le]⟩
 intro k s ⟨j,v3,o1,o2,o3,hj,hs⟩
 subst hs
 by_cases hjn:j<path.length
 ·have hw:=Cv (j:=j) (by omega)
  have hst:=Alt (p:=refuses) hjn
  have hln:=Af3 (p:=refuses) (path.take j) 0
  have htl:(path.take j).length<=j:=by simp;omega
  have hbd:((Le refuses (path.take j) 0).length+1)*8<=1099511627776:=by omega
  simp -implicitDefEqProofs [hjn]
  refine Aa (hR path[j] (hb.2 j hjn)) ?_
  by_cases h1:refuses path[j]=true
  ·rw[if_pos h1]at hst
   simp -implicitDefEqProofs [h1,hbd]
   exact⟨k-1,by omega,j+1,by omega,by simp[hw],by rw[hst];simp,by rw[hst]⟩
  ·rw[if_neg h1,List.append_nil]at hst
   simp -implicitDefEqProofs [h1]
   exact⟨k-1,by omega,j+1,by omega,by simp[hw],by rw[hst],by rw[hst]⟩
 ·have hx:=AmA (p:=refuses) (xs:=path) (j:=j) (by omega)
  simp -implicitDefEqProofs [hjn,hx]
def Az7 (e:Ai):Bool:=decide (0<(At8 e.path).length)
def Av5 (w:World):List Int:=Le Az7 w.ends 0
abbrev AyX:Prop:=∀w:World,Af w<=4194304->R [arg (Bu w)] [] (.sl 0 1 (Av5 w).length (ints (Av5 w))) []
theorem AJm {e:Ai} (h:Am e<=4194304):Cr Gm e.path<=4194304:=by unfold Am at h;omega
theorem AGX (hR:Axz (D 195)):AyX (Body D Av3):=by
 intro w hsz
 have hl:=FE hsz
 have hres:Av5 w=Le Az7 w.ends 0:=rfl
 rw[hres]
 simp -implicitDefEqProofs
 refine Ag (fun k s=>∃j v4 o2 o3 o4 o5,j+k=w.ends.length/\s=⟨[.undef,.undef,.undef,.arr 6,v4,.undef,.sl 1 4 w.ends.length (w.ends.flatMap Ah),I w.ends.length,I j,.undef,.undef],[.var ((Bu w).map (AO 1)),.free,o2,o3,o4,o5,.arr 1 0 (Le Az7 (w.ends.take j) 0).length (ints (Le Az7 (w.ends.take j) 0))]⟩) ?_ (w.ends.length) _ ⟨0,.undef,.free,.free,.free,.free,by simp,by simp[Le]⟩
 intro k s ⟨j,v4,o2,o3,o4,o5,hj,hs⟩
 subst hs
 by_cases hjn:j<w.ends.length
 ·have hw:=Cv (j:=j) (by omega)
  have hst:=Alt (p:=Az7) hjn
  have hln:=Af3 (p:=Az7) (w.ends.take j) 0
  have htl:(w.ends.take j).length<=j:=by simp;omega
  have hbd:((Le Az7 (w.ends.take j) 0).length+1)*8<=1099511627776:=by omega
  have hpp:=AJm (AdH hsz hjn)
  have hpl:=J9 (f:=Gm) (xs:=w.ends[j].path)
  simp -implicitDefEqProofs [hjn]
  refine Aa (hR w.ends[j].path (Aeg hpp) (by omega)) ?_
  have hq:Az7 w.ends[j]=decide (0<(At8 w.ends[j].path).length):=rfl
  by_cases h1:0<(At8 w.ends[j].path).length
  ·have h1':(0:Int)<(At8 w.ends[j].path).length:=by omega
   rw[if_pos (by rw[hq];simp[h1])]at hst
   simp -implicitDefEqProofs [h1,h1',hbd]
   exact⟨k-1,by omega,j+1,by omega,by simp[hw],by rw[hst];simp,by rw[hst]⟩
  ·have h1':¬(0:Int)<(At8 w.ends[j].path).length:=by omega
   rw[if_neg (by rw[hq];simp[h1]),List.append_nil]at hst
   simp -implicitDefEqProofs [h1,h1']
   exact⟨k-1,by omega,j+1,by omega,by simp[hw],by rw[hst],by rw[hst]⟩
 ·have hx:=AmA (p:=Az7) (xs:=w.ends) (j:=j) (by omega)
  simp -implicitDefEqProofs [hjn,hx]
end Go.Eng.T
