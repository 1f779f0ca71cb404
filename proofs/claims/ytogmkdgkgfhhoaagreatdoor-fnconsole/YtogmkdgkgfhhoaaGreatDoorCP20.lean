/- Own work: part 20 of the proof of FnConsole. -/
import Derived.Test.YtogmkdgkgfhhoaaGreatDoorCEngAL
import Derived.Test.YtogmkdgkgfhhoaaGreatDoorCP12
import Derived.Test.YtogmkdgkgfhhoaaGreatDoorCP14
import Derived.Test.YtogmkdgkgfhhoaaGreatDoorCP16
import Derived.Test.YtogmkdgkgfhhoaaGreatDoorCP18
import Derived.Test.YtogmkdgkgfhhoaaGreatDoorCP19
import Derived.Below
import Derived.Sort.Grow
import Derived.Deep.Draws
import Derived.Lib.LaidTab
import Derived.Sort.Row
import Derived.Laws.IdiomCopy
import Derived.Lib.SlicesCompact
import Derived.Laws.AppendOwn
import Derived.Lib.SplitLaws
set_option linter.unusedSimpArgs false
set_option linter.unusedVariables false
namespace Go.Eng.T
open Go.Lib
set_option maxRecDepth 20000
set_option maxHeartbeats 4000000
def AAX (n:Int):List UInt8:=if n=0 then [119,97,105,116]else if n=1 then [103,111,111,100]else if n=2 then [98,97,100]else []
variable (R:Rel)
abbrev Awz:Prop:=∀n:Int,R [I n] [] (Sb (AAX n)) []
variable (D:Dn)
theorem AEO (hI:Vf (D 114)):Awz (Body D AuM):=by
 intro n
 simp -implicitDefEqProofs
 refine Aa (hI n 0 2) ?_
 by_cases h:0<=n/\n<=2
 ·have hn:n=0∨n=1∨n=2:=by omega
  rcases hn with rfl | rfl | rfl
  all_goals simp -implicitDefEqProofs [AAX]
 ·have h0:¬n=0:=by omega
  have h1:¬n=1:=by omega
  have h2:¬n=2:=by omega
  simp -implicitDefEqProofs [h,AAX,h0,h1,h2]
theorem AAd {α:Type} {p:α->Bool}:∀(xs:List α) (i:Nat),i+xs.length<=9000000->DK (Le p xs i)
 | [],_,_=>by intro x hx;simp[Le]at hx
 | y::r,i,h=>by
  intro x hx
  simp only[List.length_cons]at h
  rw[Le]at hx
  split at hx
  ·rcases List.mem_cons.1 hx with rfl | hx
   ·unfold Py;omega
   ·exact AAd r (i+1) (by omega) x hx
  ·exact AAd r (i+1) (by omega) x hx
theorem AIQ (w:World) (h:w.ends.length<=4194304):DK (Ars w):=by
 intro x hx
 unfold Ars ABd at hx
 obtain⟨v,_,rfl⟩:=List.mem_map.1 hx
 have:=AF4 (AFs w v) w.ends.length
 unfold ABm Py
 omega
theorem AJr (w:World) (n:Int) (h:w.ends.length<=4194304):DK (Atf w n):=by
 intro x hx
 unfold Atf Atw at hx
 split at hx
 ·obtain⟨y,hy,rfl⟩:=List.mem_map.1 hx
  have:=AIQ w h y hy
  unfold Ax6
  split
  ·unfold Py;omega
  ·exact this
 ·cases hx
theorem AEz (w:World) (n:Int):(Atf w n).length<=10:=by
 unfold Atf Atw
 split
 ·simp[Ars,Axi]
 ·simp
theorem AKK (w:World) (h:∀l,l∈w.log->Py l.fin):DK (Ata w):=by
 intro x hx
 unfold Ata at hx
 rcases(AzL _ _ _).1 hx with hx | hx
 ·cases hx
 ·unfold Auy at hx
  obtain⟨l,hl,rfl⟩:=List.mem_map.1 hx
  exact h l (List.mem_filter.1 hl).1
theorem AGm (w:World):(Ata w).length<=w.log.length:=by
 have h1:=ADg (Auy w w.log) []
 have h2:(Auy w w.log).length<=w.log.length:=by unfold Auy;rw[List.length_map];exact List.length_filter_le _ _
 unfold Ata
 simp only[List.length_nil]at h1
 omega
theorem AKY (w:World) (i:Int):Py (AsR w i):=by
 have z:Py 0:=by unfold Py;omega
 unfold AsR
 split
 ·split
  ·rename_i e _
   unfold Axs
   split
   ·by_cases h:AJ w.server (leftOf e.versions (BZ e.path e.versions))=0
    ·rw[h];exact z
    ·have h2:=AJQ h
     have:=RF h2.2 _ h2.1
     unfold InV at this
     unfold Py
     omega
   ·exact z
  ·exact z
 ·exact z
structure Art (w:World):Prop where
 sz:Af w<=4194304
 ser:DK w.server
 roll:Py w.rollout.version/\DK w.rollout.stages/\Py w.rollout.pos
 now:Py w.now/\Py w.hurt
 ends:∀e,e∈w.ends->DK e.versions/\DK e.tags
 log:∀l,l∈w.log->Py l.fin/\AyE l.dialed
def bl (b:ByteArray):List UInt8:=b.data.toList
theorem ALc (b:ByteArray):Ww (bl b)=b:=by
 apply ByteArray.ext
 show b.data.toList.toArray=b.data
 simp
def wNo:List UInt8:=[110,111]
def wOk:List UInt8:=[111,107]
def Atb:List UInt8:=[119,104,97,116]
def Ayy (w:World):List UInt8:=match w.log[w.log.length-1]? with
 | some l=>F8 l.dialed
 | none=>wNo
def AsK (w:World) (word:List UInt8):Option (List UInt8):=
 if word=[108,97,115,116]then some (Ayy w)else if word=[115,105,103,110,97,108]then some (AAX (LB w))
 else if word=[104,97,114,100]then some (fmtList (Av5 w))else if word=[99,111,117,110,116,115]then some (fmtList (Ars w))
 else if word=[104,117,114,116]then some (fmtList (Ata w))else if word=[115,104,111,119]then some (VE w)
 else if word=[97,117,100,105,116]then some (if bl (Atx w)=[]then wOk else bl (Atx w))else none
def At3 (w:World) (word:List UInt8) (n:Int):Option (List UInt8):=
 if word=[101,110,100]then some (if NJ n 0 ((w.ends.length:Int)-1)then(match w.ends[n.toNat]? with | some e=>OI e | none=>wNo)else wNo)
 else if word=[98,101,115,116]then some (itoa (AsR w n))else if word=[104,97,115]then some (fmtList (Le (ABA n) w.ends 0))
 else if word=[115,116,114,97,110,100,101,100]then some (fmtList (Kj w.server (Fh w) n))else if word=[114,101,112,111,114,116]then some (fmtList (Atf w n))else none
abbrev AKC:Prop:=∀(w:World) (word:List UInt8),Art w->R [arg (Bu w),Sb word] [] (.tup [Sb ((AsK w word).getD []),B (AsK w word).isSome]) []
abbrev AIS:Prop:=∀(w:World) (word:List UInt8) (n:Int),Art w->Py n->R [arg (Bu w),Sb word,I n] [] (.tup [Sb ((At3 w word n).getD []),B (At3 w word n).isSome]) []
theorem AAq {w:World} (h:Af w<=4194304):w.rollout.stages.length<=4194304:=OU h
theorem AJJ {w:World} (ok:Art w) (h:0<w.log.length):∃(i:Nat) (hi:i<w.log.length),w.log.length-1=i/\Ayy w=F8 w.log[i].dialed/\w.log[i].dialed.deal.tags.length<=4194304/\w.log[i].dialed.up.length<=4194304/\AyE w.log[i].dialed:=by
 have hl:w.log.length-1<w.log.length:=by omega
 have hz:=ok.sz
 have h1:=size_at (f:=Ip) hl
 have h2:Ip (w.log[w.log.length-1]'hl)=(w.log[w.log.length-1]'hl).dialed.deal.tags.length+(w.log[w.log.length-1]'hl).dialed.up.length:=rfl
 unfold Af at hz
 refine⟨_,hl,rfl,?_,by omega,by omega,(ok.log _ (List.getElem_mem hl)).2⟩
 unfold Ayy
 rw[List.getElem?_eq_getElem hl]
theorem ALy (hD:JM (D 126)) (hN:Pq (D 127)) (hSN:Awz (D 128)) (hH:AyX (D 129)) (hL:Kb (D 122))
 (hV:Atq (D 130)) (hU:Axh (D 131)) (hW:K9 (D 132)) (hF:AA0 (D 133)):AKC (Body D ABT):=by
 intro w word ok
 have hsz:=ok.sz
 have he:=FE hsz
 have hlg:=Akl hsz
 have hs:=Od hsz
 have hst:=AAq hsz
 have hx1:(Av5 w).length<=4194304/\DK (Av5 w):=⟨Nat.le_trans (Af3 _ _) he,AAd _ _ (by omega)⟩
 have hx2:(Ars w).length<=4194304/\DK (Ars w):=⟨by rw[Ars,Axi];omega,AIQ w he⟩
 have hx3:(Ata w).length<=4194304/\DK (Ata w):=⟨by have:=AGm w;omega,AKK w fun l hl=>(ok.log l hl).1⟩
 by_cases c1:word=[108,97,115,116]
 ·by_cases g:w.log.length=0
  ·have hn:w.log=[]:=List.eq_nil_of_length_eq_zero g
   simp -implicitDefEqProofs [c1,hn,AsK,Ayy,wNo]
  ·have g':¬(w.log.length:Int)=0:=by omega
   obtain⟨i,hi,e1,e2,e3,e4,e5⟩:=AJJ ok (by omega)
   have hw1:IntKind.i64.wrap ((w.log.length:Int)-1)=(i:Int):=by rw[Ad (by omega) (by omega)];omega
   simp -implicitDefEqProofs [c1,g,g',hw1,hi]
   refine Aa (hD w.log[i].dialed e3 e4 e5.1.1 e5.1.2 e5.2.1 e5.2.2) ?_
   simp -implicitDefEqProofs [AsK,e2]
 by_cases c2:word=[115,105,103,110,97,108]
 ·simp -implicitDefEqProofs [c2]
  refine Aa (hN w hsz) ?_
  simp -implicitDefEqProofs
  refine Aa (hSN (LB w)) ?_
  simp -implicitDefEqProofs [AsK,c2]
 by_cases c3:word=[104,97,114,100]
 ·simp -implicitDefEqProofs [c3]
  refine Aa (hH w hsz) ?_
  simp -implicitDefEqProofs
  refine Aa (hL (Av5 w) hx1.1 hx1.2) ?_
  simp -implicitDefEqProofs [AsK,c3]
 by_cases c4:word=[99,111,117,110,116,115]
 ·simp -implicitDefEqProofs [c4]
  refine Aa (hV w hsz) ?_
  simp -implicitDefEqProofs
  refine Aa (hL (Ars w) hx2.1 hx2.2) ?_
  simp -implicitDefEqProofs [AsK,c4]
 by_cases c5:word=[104,117,114,116]
 ·simp -implicitDefEqProofs [c5]
  refine Aa (hU w hsz) ?_
  simp -implicitDefEqProofs
  refine Aa (hL (Ata w) hx3.1 hx3.2) ?_
  simp -implicitDefEqProofs [AsK,c5]
 by_cases c6:word=[115,104,111,119]
 ·simp -implicitDefEqProofs [c6]
  refine Aa (hW w hs.1 ok.ser hst ok.roll.1 ok.roll.2.1 ok.roll.2.2 he hlg ok.now.1 ok.now.2) ?_
  simp -implicitDefEqProofs [AsK,c6]
 by_cases c7:word=[97,117,100,105,116]
 ·simp -implicitDefEqProofs [c7]
  refine Aa (hF w hsz) ?_
  rw[<-ALc (Atx w)]
  by_cases g:bl (Atx w)=[]
  ·simp -implicitDefEqProofs [g]
   simp -implicitDefEqProofs [g,AsK,wOk]
  ·simp -implicitDefEqProofs [g]
   simp -implicitDefEqProofs [g,AsK]
 simp -implicitDefEqProofs [c1,c2,c3,c4,c5,c6,c7,AsK]
theorem AHu (hN:Au5 (D 117)) (hE:Pm (D 118)) (hB:Ayv (D 119)) (hI:EB (D 120)) (hH:Awv (D 121)) (hL:Kb (D 122))
 (hLs:Q8 (D 123)) (hS:Ry (D 124)) (hR:AxK (D 125)):AIS (Body D Avm):=by
 intro w word n ok hn
 have hsz:=ok.sz
 have he:=FE hsz
 have hlg:=Akl hsz
 have hs:=Od hsz
 have hst:=AAq hsz
 have hx1:(Le (ABA n) w.ends 0).length<=4194304/\DK (Le (ABA n) w.ends 0):=⟨Nat.le_trans (Af3 _ _) he,AAd _ _ (by omega)⟩
 have hll:(Fh w).length=w.ends.length:=by simp[Fh]
 have hx2:(Kj w.server (Fh w) n).length<=4194304/\DK (Kj w.server (Fh w) n):=⟨Nat.le_trans (Af3 _ _) (by omega),AAd _ _ (by omega)⟩
 have hx3:(Atf w n).length<=4194304/\DK (Atf w n):=⟨by have:=AEz w n;omega,AJr w n he⟩
 have hw1:IntKind.i64.wrap ((w.ends.length:Int)-1)=(w.ends.length:Int)-1:=Ad (by omega) (by omega)
 by_cases c1:word=[101,110,100]
 ·simp -implicitDefEqProofs [c1,hw1]
  refine Aa (hN w n he) ?_
  by_cases g:NJ n 0 ((w.ends.length:Int)-1)
  ·obtain⟨i,rfl⟩:∃i:Nat,n=(i:Int):=⟨n.toNat,by unfold NJ at g;omega⟩
   have hi:i<w.ends.length:=by unfold NJ at g;omega
   have hes:=AdH hsz hi
   have her:=ok.ends _ (List.getElem_mem hi)
   have g2:=g
   unfold NJ at g2
   have hsz1:Am w.ends[i]=w.ends[i].versions.length+w.ends[i].tags.length+Cr Gm w.ends[i].path:=rfl
   have hsz2:=J9 (f:=Gm) (xs:=w.ends[i].path)
   simp -implicitDefEqProofs [g,g2,hi]
   refine Aa (hE w.ends[i] (by omega) her.1 (by omega) her.2 (by omega)) ?_
   simp -implicitDefEqProofs [At3,hi]
   rw[if_pos g]
  ·have g2:=g
   unfold NJ at g2
   simp -implicitDefEqProofs [g,g2,At3,wNo]
 by_cases c2:word=[98,101,115,116]
 ·simp -implicitDefEqProofs [c2]
  refine Aa (hB w n hsz) ?_
  simp -implicitDefEqProofs
  refine Aa (hI (AsR w n) (AKY w n)) ?_
  simp -implicitDefEqProofs [At3,c2]
 by_cases c3:word=[104,97,115]
 ·simp -implicitDefEqProofs [c3]
  refine Aa (hH w n hsz) ?_
  simp -implicitDefEqProofs
  refine Aa (hL _ hx1.1 hx1.2) ?_
  simp -implicitDefEqProofs [At3,c3]
 by_cases c4:word=[115,116,114,97,110,100,101,100]
 ·simp -implicitDefEqProofs [c4]
  refine Aa (hLs w hsz) ?_
  simp -implicitDefEqProofs
  refine Aa (hS w.server (Fh w) n hs.1 (Ahj hsz)) ?_
  simp -implicitDefEqProofs
  refine Aa (hL _ hx2.1 hx2.2) ?_
  simp -implicitDefEqProofs [At3,c4]
 by_cases c5:word=[114,101,112,111,114,116]
 ·simp -implicitDefEqProofs [c5]
  refine Aa (hR w n hsz) ?_
  simp -implicitDefEqProofs
  refine Aa (hL _ hx3.1 hx3.2) ?_
  simp -implicitDefEqProofs [At3,c5]
 simp -implicitDefEqProofs [c1,c2,c3,c4,c5,At3]
end Go.Eng.T
namespace Go.Eng.T
open Go.Lib
set_option maxRecDepth 20000
set_option maxHeartbeats 4000000
def AnV (n:Int) (st:List Int):World×Bool:=if 1<=n/\n<=6 then JV [1,2,3] [1,40] (AqH n) ⟨3,st,0,false⟩else(Wl,false)
theorem Aw7 (n:Int):Cr Am (AqH n)<=60:=by
 unfold AqH
 split
 ·rename_i h
  have hn:n=1∨n=2∨n=3∨n=4∨n=5∨n=6:=by omega
  rcases hn with rfl | rfl | rfl | rfl | rfl | rfl<;>decide
 ·decide
theorem AGg (n:Int) (st:List Int):Af (AnV n st).1<=65+st.length:=by
 unfold AnV
 split
 ·have h1:=AK5 [1,2,3] [1,40] (AqH n) ⟨3,st,0,false⟩
  have h2:=Aw7 n
  simp only[List.length_cons,List.length_nil,Db]at h1
  omega
 ·simp[Af,Wl,Cr,Db]
abbrev AF2 (R:Rel):Prop:=∀(n:Int) (st:List Int),st.length<=4194000->R [I n,.sl 1 1 st.length (ints st)] [] (.tup [.agg (Bu (AnV n st).1),B (AnV n st).2]) []
theorem AFj (D:Dn) (hI:Vf (D 114)) (hE:Aud (D 115)) (hN:RJ (D 116)):AF2 (Body D AuB):=by
 intro n st hl
 simp -implicitDefEqProofs
 refine Aa (hI n 1 6) ?_
 by_cases h:1<=n/\n<=6
 ·simp -implicitDefEqProofs [h]
  refine Aa (hE n) ?_
  simp -implicitDefEqProofs
  have hsz:Af (Cw [1,2,3] [1,40] (AqH n) ⟨3,st,0,false⟩)<=4194304:=by
   have h2:=Aw7 n
   rw[Amh]
   simp only[List.length_cons,List.length_nil,Db]
   omega
  have hnn:=hN [1,2,3] [1,40] (AqH n) ⟨3,st,0,false⟩ hsz
  refine Aa (show _ from hnn) ?_
  have e:AnV n st=JV [1,2,3] [1,40] (AqH n) ⟨3,st,0,false⟩:=by unfold AnV;rw[if_pos h]
  simp -implicitDefEqProofs [e]
 ·have e:AnV n st=(Wl,false):=by unfold AnV;rw[if_neg h]
  simp -implicitDefEqProofs [h,e,Wl]
end Go.Eng.T
namespace Go.Eng.T
set_option maxRecDepth 100000
def AtQ:=mk 0x80f6ca0001008bd69 0xc02ec02ca4022e0c24020ba402c02b2402c02ec02aa402022a2402031017601014d20101176014920110176014520110101 [0x40080008c021006800000000852880000100088008200088443d22c0818c02,0x328440061246210a2546821011a0020e46441020,0x21000e229180e6093200a81486600e668808000c8822092004e2202146,0x51080019023a30b43bc1a010627a62521e6290c001264684f45062,0xe73184500400118380c1c8005242024e8c40a0092a202180,0x1c200044920011c408a2,0xc510c0019023a30b43bc1a010627a6413d3935312dc001264684f450c2,0x2925212147006021306222110000000613564a0e050740024a2a181011423c20201004008aa202de0,0x25200004d212a0210a,0x438a220001096e0a514010301e9800000010a5100000200110010400110887ad2b230701839001958575655547040008a5190b81213d11292a,0xb4a50004204001000842100313d30000202548c002d40069214a7a2a14b,0x8480050e606a831614003402080f4c0000000852880000100088008200088443d855c0bebcbab8b6e0009323427a2c16a,0x4aa24108015c20270802c09261a03e1c20300191b1c9bdde8d20290402004008a5101498c,0x3935c5114000b50494f50001080a12509381287a6a12509000000010a5100000200110010400110887b42b000981c000303800a009d9995918d89c4ecccac8c6c494f2766656463627100808ad180a482056049001840029210080a48008011400610189ab,0x412000055220a021ca,0x3d3140008811adbd0d000313d31ea7a261ea,0x3d3140008811bdb90d000313d318a7a2620a,0x4ab24108015c20270802c05261a03e1c203001b1b1858d20290402004008a51014a2c,0x1c9a98e288c000c811adbd0d008313d35cdad8d6d4d2e0009623427a2824a,0x317488004088148007c208268,0xc510c000c4e4b4d500014800009400004211c0000847001c00000301800196a3014928040524005008a0030800c22008184004408a002880002213d11aa8b,0x60800318488000088148007c2082aa,0x1442000253921354001c00006000004a0e000141c004000000600045c8c0c22008184004408a002880002213d114acb,0xe4800119480041ca042ea,0x353140008811d185a1de0d000313d318a7a2630a,0x1a98a00064084000189e98d5018a7a2832a]
def Ays:=dT 0xd4f4c589a625a525a42108421084210844108069
def AuO:=mk 4539883511369025 0x30080008090c40ae7a42028030110176012d201170292010110101 [0x104400002804480802,0x10004308400020511a0020e46040c22,0xc811000811009000ec41040,0x40a480698148802400115040c41460,0x2040018c22001080125040c41082,0x20b49e211049000ec40ca0,0xc200044008828044808c2,0xc489068827ac41492d41452941392209a81078086114410000407a60000000429440000080044004100044221ea1600108d00000000214a20000040022002080022110f614e2,0xc200083921a80c580080007620610a,0x1e90d5394e42128,0x8e10800004e53148a6148,0x1c200948798a419c2125c10a28020603d30000000214a20000040022002080022110f4956460e030720010f314833040008291f10513d11296a,0x4a428312d483847b44924291788e608d58b85a528c608004002088200a27a6312d4189694b18102090b5e52429220210852d000950001840025210a7a2e18b,0x43920001023940441a8,0x726a638a50004208441c0000c2061ca]
def AzZ:=dT 0x1084660a484410842110041
attribute [simp] AtQ AuO
open Go.Lib
set_option maxRecDepth 20000
set_option maxHeartbeats 4000000
end Go.Eng.T
namespace Go.Eng
end Go.Eng
namespace Go.Eng.T
set_option maxRecDepth 20000
set_option maxHeartbeats 4000000
theorem AJ1 {w:World} {e:Event} (h:(AA w e).2=false):(AA w e).1=w:=by
 unfold AA at h⊢
 split at h
 ·rename_i g;rw[if_pos g];unfold CR at h⊢;split at h
  ·cases h
  ·rename_i g2;rw[if_neg g2]
 rename_i g;rw[if_neg g]
 split at h
 ·rename_i g;rw[if_pos g];unfold Dc at h⊢;split at h
  ·cases h
  ·rename_i g2;rw[if_neg g2]
 rename_i g;rw[if_neg g]
 split at h
 ·rename_i g;rw[if_pos g];unfold BS at h⊢
  repeat' split
  all_goals first | rfl | (exfalso;simp_all)
 rename_i g;rw[if_neg g]
 split at h
 ·rename_i g;rw[if_pos g];unfold Br at h⊢;split at h
  ·cases h
  ·rename_i g2;rw[if_neg g2]
 rename_i g;rw[if_neg g]
 split at h
 ·rename_i g;rw[if_pos g];unfold EC at h⊢;dsimp only at h⊢;rw[AoI h]
 rename_i g;rw[if_neg g]
 split at h
 ·rename_i g;rw[if_pos g];unfold Fg at h⊢
  repeat' split
  all_goals first | rfl | (exfalso;simp_all)
 rename_i g;rw[if_neg g]
 split at h
 ·rename_i g;rw[if_pos g];unfold DX at h⊢
  repeat' split
  all_goals first | rfl | (exfalso;simp_all)
 rename_i g;rw[if_neg g]
 split at h
 ·rename_i g;rw[if_pos g];unfold ED at h⊢;split at h
  ·cases h
  ·rename_i g2;rw[if_neg g2]
 rename_i g;rw[if_neg g]
structure AL1 (w:World) (r:World×Bool):Prop where
 ok:Ap r.1=true
 sz:Af r.1<=30000
 no:r.2=false->r.1=w
end Go.Eng.T
namespace Go.Eng.T
open Go.Lib
set_option maxRecDepth 20000
set_option maxHeartbeats 8000000
theorem AIn:∀(l w:List UInt8),(wGo l w).length<=l.length+1/\∀x,x∈wGo l w->x≠ []/\x.length<=w.length+l.length
 | [],w=>by
  rw[AIW]
  split
  ·simp
  ·rename_i h
   refine⟨by simp,fun x hx=> ?_⟩
   simp only[List.mem_singleton]at hx
   subst hx
   exact⟨h,by simp⟩
 | c::r,w=>by
  have h1:=AIn r []
  have h2:=AIn r (w++ [c])
  rw[wGo]
  split
  ·split
   ·refine⟨by simp;omega,fun x hx=> ?_⟩
    have:=h1.2 x hx
    refine⟨this.1,?_⟩
    have h3:=this.2
    simp at h3⊢
    omega
   ·rename_i hw
    refine⟨by simp;omega,fun x hx=> ?_⟩
    rcases List.mem_cons.1 hx with rfl | hx
    ·exact⟨hw,by simp⟩
    ·have:=h1.2 x hx
     refine⟨this.1,?_⟩
     have h3:=this.2
     simp at h3⊢
     omega
  ·refine⟨by simp;omega,fun x hx=> ?_⟩
   have:=h2.2 x hx
   refine⟨this.1,?_⟩
   have h3:=this.2
   simp at h3⊢
   omega
theorem AHa (l:List UInt8):(Awt l).length<=l.length+1/\∀x,x∈Awt l->x≠ []/\x.length<=l.length:=by
 have:=AIn l []
 simpa[Awt]using this
def Ax7 (w:World) (word:List UInt8) (n:List Int):World×List UInt8:=
 if word=[119,111,114,108,100]/\n≠ []then(if(AnV (n.getD 0 0) n.tail).2=true then((AnV (n.getD 0 0) n.tail).1,wOk)else(w,wNo))
 else if word=[97,108,108]/\n=[]then(AGj w,wOk)
 else if 0<(Ark word n).kind then((AA w (Ark word n)).1,if(AA w (Ark word n)).2=true then wOk else wNo)
 else if n.length=0 then(w,(AsK w word).getD Atb)else if n.length=1 then(w,(At3 w word (n.getD 0 0)).getD Atb)else(w,Atb)
def AsN (w:World) (l:List UInt8):World×List UInt8:=
 if l.length>200 then(w,Atb)else match Awt l with
  | []=>(w,Atb)
  | word::r=>if Au2 r=true then Ax7 w word (numsOf r)else(w,Atb)
abbrev AGB (R:Rel):Prop:=∀(w:World) (l:List UInt8),Art w->Af w<=4190000->l.length<=4194000->R [arg (Bu w),Sb l] [] (.tup [.agg (Bu (AsN w l).1),Sb (AsN w l).2]) []
theorem AGF (w:List UInt8) (n:List Int):Hy (Ark w n)<=1:=by
 unfold Ark
 repeat' split
 all_goals simp[Hy,Gm,AsO]
end Go.Eng.T
namespace Go.Eng
open Go.Lib Go.RowKit
inductive TP (Ae:Nat->Option FuncId) (w:World):List V->List Value->Prop where
 | nil:TP Ae w [] []
 | sc {v:Value} {azs:List V} {xs:List Value} (h:TP Ae w azs xs):TP Ae w (.sc v::azs) (v::xs)
 | sl {e len:Nat} {cells:List V} {x:Value} {azs:List V} {xs:List Value} (h1:Rd Ae w (· <w.heap.size) (.sl 1 e len cells) x) (h:TP Ae w azs xs):TP Ae w (.sl 1 e len cells::azs) (x::xs)
def Ah4:V->Prop
 | .sc _=>True
 | .sl 1 _ _ _=>True
 | _=>False
theorem Adt {F:Fr} {w:World} {β:Nat->Base} {own:Nat->Option (Nat×List Nat)} {H:Hp} (hw:w=F.w0):∀ {azs:List V} {xs:List Value},(∀a,a∈azs->Ah4 a)->Pw (VR F β own H w) azs xs->TP F.Ae w azs xs
 | [],xs,_,h=>by rw[h.N8];exact .nil
 | a::azs,xs,hp,h=>by
  obtain⟨x,r,rfl,h1,h2⟩:=h.Nf
  have ih:=Adt hw (fun a ha=>hp a (List.mem_cons_of_mem _ ha)) h2
  have ha:=hp a (by simp)
  cases h1 with
  | sc h=>exact .sc ih
  | @rd fl e len cells _ h3 h=>
   match fl,ha,h with
   | 1,_,h=>exact .sl (Rd.move h (fun b hb=>by rw[hw];exact hb.1) (fun _ _=>rfl)) ih
  | _=>exact absurd ha (by simp[Ah4])
theorem AgE {P:Program} {Ae:Nat->Option FuncId} {G:Gl} {g:Nat} {args:List V} {v:Value} (hv:v.oneCell' =true) (hp':∀a,a∈args->Ah4 a)
 (h:∀id,Ae g=some id->∀w:World,(∀b,G b->b<w.heap.size/\w.heap[b]? =G.is b)->∀xs,TP Ae w args xs->Calls P id xs.toArray w fun e w'=>e= .returned v/\Below w.heap.size w w'):Den P Ae G g args [] (.sc v) []:=by
 intro id hid F hF hG hb ht hn inv xs hx
 have hr:=Adt (F:=F) rfl hp' hx
 rw[hF]at hr
 refine(h id hid F.w0 (fun b hb=> ?_) xs hr).mono fun e w' ⟨he,hw⟩=> ?_
 ·have:=inv.glob b (by rw[hG];exact hb)
  exact⟨this.1,by rw[<-hG];exact this.2.2⟩
 ·subst he
  refine⟨F.own0,⟨hw.size,hw.os,hw.tape,hw.output,fun b hb _=>hw.block b hb,fun b p hb=>⟨Nat.lt_of_lt_of_le (inv.ownb b p hb).1 hw.size,fun _=> ?_⟩,.sc hv,hn.symm,fun i o hi=> ?_⟩⟩
  ·rw[hb];simp
  ·simp at hi
theorem below_grow {w:World} {k:Nat} {os:Array Obj}:Below w.heap.size w (Sort.grow (w.drewN k) os):=
 ⟨rfl,rfl,rfl,by simp[Sort.grow,World.drewN],fun b hb=>by simp[Sort.grow,World.drewN,Array.getElem?_append,hb]⟩
theorem AnP {P:Program} {W w:World} {name:String} {k:IntKind} {zs:List Int} {b:Nat} (hg:P.globalNamed name=some b) (h:TabIs P W name k zs) (he:w.heap[b]? =W.heap[b]?):TabIs P w name k zs:=by
 unfold TabIs World.var? at *
 rw[hg]at h⊢
 simp only[Option.bind_some]at h⊢
 rw[he]
 exact h
theorem Agi {P:Program} {W:World} {name:String} {k:IntKind} {zs:List Int} {rest:List (String×DataW Unit)} {g:Nat} {t e:TypeId} {n:Nat} {ps:List MemPlace}
 (hg:P.globalNamed name=some g) (hty:(P.globals[g]?).map (·.type)=some t) (ht:P.underlying t=some (.array n e)) (he:P.underlying e=some (.int k)) (hce:P.cellsOf e=1) (hct:P.cellsOf t=n)
 (h:DataW.LaidVars P W ((name,tabData k zs)::rest) ps):TabIs P W name k zs:=by
 obtain⟨g',t',cs,fuel,p,q,hg',ht',hvar,hd,_,_⟩:=h
 obtain rfl:=Option.some.inj (hg.symm.trans hg')
 obtain rfl:=Option.some.inj (hty.symm.trans ht')
 unfold TabIs
 rw[hvar,<-cells_of_tab ht he hce hct hd]
theorem Amj {P:Program} {W:World} {name:String} {k:IntKind} {zs:List Int} {b:Nat} (hg:P.globalNamed name=some b) (h:TabIs P W name k zs):b<W.heap.size:=by
 unfold TabIs World.var? at h
 rw[hg]at h
 simp only[Option.bind_some]at h
 by_cases hb:b<W.heap.size
 ·exact hb
 ·rw[Array.getElem?_eq_none (by omega)]at h;cases h
end Go.Eng
namespace Go.Eng
open Go.Lib Go.RowKit Go.Sort
def iv (l:List Int):List Value:=l.map (Value.int .i64)
@[simp] theorem AD3 (l:List Int):(iv l).length=l.length:=by simp[iv]
theorem AsZ (l:List Int):Fj (iv l):=by
 intro v hv
 simp only[iv,List.mem_map]at hv
 obtain⟨x,_,rfl⟩:=hv
 rfl
structure Kept (F:Fr) (w':World):Prop where
 size:F.w0.heap.size<=w'.heap.size
 os:w'.os=F.w0.os
 tape:w'.tape=F.w0.tape
 output:w'.output=F.w0.output
 keep:∀b,b<F.w0.heap.size->F.own0 b=none->w'.heap[b]? =F.w0.heap[b]?
theorem Kept.refl (F:Fr):Kept F F.w0:=⟨Nat.le_refl _,rfl,rfl,rfl,fun _ _ _=>rfl⟩
theorem AAS {F:Fr} {given:List O} {k:Nat} {l:List Int} {x:Value} (inv:Inv F F.β0 F.own0 (hp given) F.w0) (hk:hp given k= .arr 1 0 l.length (T.ints l)) (h:VR F F.β0 F.own0 (hp given) F.w0 (.arr k) x):
 ∃a cap,x= .slice a l.length cap/\(l.length<=cap/\cap<=9223372036854775807)/\a=(F.β0 k).a/\cap=(F.β0 k).cap/\(cap=0∨∃b o,a=some ⟨b,o,none⟩/\F.own0 b=some (k,[])/\Has F.w0 b o (iv l) cap):=by
 have ho:=inv.objs k
 rw[hk]at ho
 obtain⟨vs,h1,h2,h3,h4,h5⟩:=ho
 have hv:vs=iv l:=by
  apply List.ext_getElem?
  intro i
  by_cases hi:i<l.length
  ·have hlen:vs.length=l.length:=by rw[h1];simp
   have e1:vs[i]? =some (vs[i]'(by omega)):=by simp[hlen,hi]
   have:=h5 i (.sc (.int .i64 l[i])) _ (by simp[hi]) e1
   rw[e1]
   generalize vs[i]'(by omega)=y at this
   cases this with
   | sc _=>simp[iv,hi]
  ·rw[List.getElem?_eq_none (by rw[h1];simp;omega),List.getElem?_eq_none (by simp;omega)]
 subst hv
 cases h with
 | @arr _ e t len cs he=>
  rw[hk]at he
  simp only[Ac,Option.some.injEq,Prod.mk.injEq]at he
  obtain⟨rfl,rfl,rfl,rfl⟩:=he
  refine⟨_,_,rfl,h3,rfl,rfl,?_⟩
  rcases h4 with h4 | ⟨b,o,h4,h6,h7⟩
  ·exact .inl (by omega)
  ·exact .inr ⟨b,o,h4,h6,by rw[Nat.mul_one]at h7;exact h7⟩
 | goneA hd=>rw[hk]at hd;cases hd
theorem Axj {P:Program} {Ae:Nat->Option FuncId} {G:Gl} {g:Nat} {args:List V} {given:List O} {l':List Int}
 (h:∀id,Ae g=some id->∀F:Fr,F.Ae=Ae->Inv F F.β0 F.own0 (hp given) F.w0->∀xs,Pw (VR F F.β0 F.own0 (hp given) F.w0) args xs->
  Calls P id xs.toArray F.w0 fun e w'=>∃a cap,e= .returned (.slice a l'.length cap)/\(l'.length<=cap/\cap<=9223372036854775807)/\(cap=0∨∃b o,a=some ⟨b,o,none⟩/\Has w' b o (iv l') cap/\(b<F.w0.heap.size->F.own0 b≠none))/\Kept F w'):
 Den P Ae G g args given (.sl 0 1 l'.length (T.ints l')) (given.map fun _=> .dead):=by
 intro id hid F hF hG hb ht hn inv xs hx
 refine(h id hid F hF inv xs hx).mono fun e w' ⟨a,cap,he,hl,hm,hk⟩=> ?_
 subst he
 have hcs:∀own (i:Nat) (v:V) (x:Value),(T.ints l')[i]? =some v->(iv l')[i]? =some x->Ow F.Ae w' own (fun _ b=>F.G b) 0 F.ngiven ([]++ [i]) v x:=by
  intro own i v x h1 h2
  by_cases hi:i<l'.length
  ·rw[T.ints_at hi]at h1
   simp only[iv,List.getElem?_map,hi,List.getElem?_eq_getElem,Option.map_some,Option.some.injEq]at h1 h2
   subst h1 h2
   exact .sc rfl
  ·rw[List.getElem?_eq_none (by simp;omega)]at h1;cases h1
 rcases hm with hm | ⟨b,o,rfl,hhas,hown⟩
 ·refine⟨fun _=>none,⟨hk.size,hk.os,hk.tape,hk.output,hk.keep,fun b p h=>(by cases h),.own hl (by simp) (by simp) (.inl (by omega)) (hcs _),by simp[hn],fun i o hi=> ?_⟩⟩
  simp only[List.getElem?_map,Option.map_eq_some_iff]at hi
  obtain⟨_,_,rfl⟩:=hi
  trivial
 ·refine⟨fun b'=>if b' =b then some (F.ngiven,[])else none,⟨hk.size,hk.os,hk.tape,hk.output,hk.keep,fun b' p h=> ?_,.own hl (by simp) (by simp) (.inr ⟨b,o,rfl,if_pos rfl,by rw[Nat.mul_one];exact hhas⟩) (hcs _),by simp[hn],fun i o' hi=> ?_⟩⟩
  ·by_cases e:b' =b
   ·subst e;exact⟨TT hhas,hown⟩
   ·rw[if_neg e]at h;cases h
  ·simp only[List.getElem?_map,Option.map_eq_some_iff]at hi
   obtain⟨_,_,rfl⟩:=hi
   trivial
theorem AJB {P:Program} {Ae:Nat->Option FuncId} {G:Gl} {g:Nat} {l l':List Int} (hll:l'.length=l.length)
 (h:∀id,Ae g=some id->∀F:Fr,F.Ae=Ae->Inv F F.β0 F.own0 (hp [.arr 1 0 l.length (T.ints l)]) F.w0->∀a cap,l.length<=cap->(cap=0∨∃b o,a=some ⟨b,o,none⟩/\F.own0 b=some (0,[])/\Has F.w0 b o (iv l) cap)->
  Calls P id #[.slice a l.length cap] F.w0 fun e w'=>e= .returned (.tuple #[])/\(cap=0∨∃b o,a=some ⟨b,o,none⟩/\Has w' b o (iv l') cap)/\Kept F w'):
 Den P Ae G g [.arr 0] [.arr 1 0 l.length (T.ints l)] (.tup []) [.arr 1 0 l.length (T.ints l')]:=by
 intro id hid F hF hG hb ht hn inv xs hx
 obtain⟨x,r,rfl,h1,h2⟩:=hx.Nf
 obtain rfl:=h2.N8
 obtain⟨a,cap,rfl,hl,ha,hc,hm⟩:=AAS inv rfl h1
 refine(h id hid F hF inv a cap hl.1 hm).mono fun e w' ⟨he,hm',hk⟩=> ?_
 subst he
 refine⟨F.own0,⟨hk.size,hk.os,hk.tape,hk.output,hk.keep,fun b p h=>⟨Nat.lt_of_lt_of_le (inv.ownb b p h).1 hk.size,fun _=>by rw[h];simp⟩,.tup (vs:=[]) rfl (fun i v x h _=>by simp at h),by rw[hn];rfl,fun i o hi=> ?_⟩⟩
 match i,hi with
 | 0,hi=>
  simp only[List.getElem?_cons_zero,Option.some.injEq]at hi
  subst hi
  refine⟨rfl,iv l',by simp,by simp[hll],by rw[<-hc];exact hl,?_,?_⟩
  ·rcases hm with hm | ⟨b,o,e1,e2,e3⟩
   ·exact .inl (by rw[<-hc,hm])
   ·rcases hm' with hm' | ⟨b',o',e1',e2'⟩
    ·exact .inl (by rw[<-hc,hm'])
    ·rw[e1]at e1'
     cases e1'
     exact .inr ⟨b,o,by rw[<-ha,e1],e2,by rw[<-hc,Nat.mul_one];exact e2'⟩
  ·intro i v x h1 h2
   by_cases hi:i<l'.length
   ·rw[T.ints_at hi]at h1
    simp only[iv,List.getElem?_map,hi,List.getElem?_eq_getElem,Option.map_some,Option.some.injEq]at h1 h2
    subst h1 h2
    exact .sc rfl
   ·rw[List.getElem?_eq_none (by simp;omega)]at h1;cases h1
 | i+1,hi=>simp at hi
end Go.Eng
namespace Go.Eng
open Go.Lib Go.RowKit Go.Sort
theorem Auo (w:World) (b:Nat) (f:Array Value->Array Value):(mapBlock w b f).heap[b]? =(w.heap[b]?).map (onCells f):=by
 simp[mapBlock,Array.getElem?_modify]
theorem Auh (w:World) {b k:Nat} (f:Array Value->Array Value) (h:k≠b):(mapBlock w b f).heap[k]? =w.heap[k]? :=by
 simp[mapBlock,Array.getElem?_modify,Ne.symm h]
theorem AsE (w:World) (b:Nat) (f:Array Value->Array Value):(mapBlock w b f).heap.size=w.heap.size:=by simp[mapBlock]
theorem AxA {w w':World} {b o n:Nat} {vs vs':List Value} {f:Array Value->Array Value} (h:Has w b o vs n) (hw:w'.heap[b]? =(w.heap[b]?).map (onCells f)) (hs:∀c,(f c).size=c.size)
 (hf:∀c:Array Value,o+n<=c.size->(∀i,i<vs.length->c[o+i]? =vs[i]?)->∀i,i<vs'.length->(f c)[o+i]? =vs'[i]?) (ho:Fj vs') (hl:vs'.length<=n):Has w' b o vs' n:=by
 obtain⟨_,c,et,hb,h2,h3,h4⟩:=h
 exact⟨ho,f c,et,by rw[hw,hb];rfl,by rw[hs];exact h2,hl,hf c h2 h4⟩
theorem AFb {w:World} {b o n:Nat} {l:List Int} (h:Has w b o (iv l) n):Holds (Value.int .i64) w b o l.toArray:=by
 intro j hj
 simp only[List.size_toArray]at hj
 have hr:=(DF h).2 j (by simpa using hj)
 obtain⟨_,c,et,hb,_,_,_⟩:=h
 refine⟨?_,?_⟩
 ·rw[hr]
  simp[iv,hj]
 ·unfold World.frozen?
  simp only[hb]
  simp
theorem AwV {α:Type} [Inhabited α] (enc:α->Value) (o:Nat) (d:Array α) (c:Array Value):(putCells enc o d c).size=c.size:=by simp[putCells]
theorem AB7 (l:List Int) (o:Nat) (c:Array Value) {i:Nat} (hi:i<l.length) (hc:o+i<c.size):(putCells (Value.int .i64) o l.toArray c)[o+i]? =(iv l)[i]? :=by
 simp only[putCells,Array.getElem?_mapIdx,Array.getElem?_eq_getElem hc,Option.map_some]
 rw[if_pos ⟨by omega,by simp;omega⟩]
 simp[iv,hi]
def AHq (l:List Int):List Int:=l.mergeSort fun x y=>decide (x<=y)
theorem ABt (l:List Int):(AHq l).length=l.length:=by simp[AHq]
theorem AJ0 {P:Program} {Ae:Nat->Option FuncId} {G:Gl} {g k:Nat} (hid:Ae g=some k)
 (h0:∀(p:Option Addr) (cap:Nat) (w:World),Calls P k #[.slice p 0 cap] w fun e w'=>e= .returned (.tuple #[])/\w' =w)
 (hc:∀(blk off cap:Nat) (zs:List Int) (w:World),Holds (Value.int .i64) w blk off zs.toArray->blk<w.heap.size->zs.length<4611686018427387904->
  Calls P k #[.slice (some ⟨blk,off,none⟩) zs.length cap] w fun e w'=>e= .returned (.tuple #[])/\∃n os,w' =grow (putRow (Value.int .i64) (Sort.ahead w n) blk off (zs.mergeSort fun x y=>decide (x<=y)).toArray) os)
 (l:List Int) (hl:l.length<=4194304):Den P Ae G g [.arr 0] [.arr 1 0 l.length (T.ints l)] (.tup []) [.arr 1 0 l.length (T.ints (AHq l))]:=by
 refine AJB (ABt l) fun id hi F hF inv a cap hcap hm=> ?_
 rw[hid]at hi
 cases hi
 rcases hm with hm | ⟨b,o,rfl,hown,hhas⟩
 ·subst hm
  have:l=[]:=List.eq_nil_of_length_eq_zero (by omega)
  subst this
  refine(h0 a 0 F.w0).mono fun e w' ⟨he,hw⟩=>⟨he,.inl rfl,?_⟩
  rw[hw];exact Kept.refl F
 ·refine(hc b o cap l F.w0 (AFb hhas) (TT hhas) (by omega)).mono fun e w' ⟨he,n,os,hw⟩=>⟨he,.inr ⟨b,o,rfl,?_⟩,?_⟩
  ·refine AxA (f:=putCells (Value.int .i64) o (AHq l).toArray) hhas ?_ (AwV _ _ _) (fun c h1 _ i h2=> ?_) (AsZ _) (by simp[ABt];exact hcap)
   ·have hb:=TT hhas
    rw[hw]
    simp only[grow,putRow]
    rw[Array.getElem?_append,if_pos (by rw[AsE];exact hb),Auo]
    rfl
   ·simp only[AD3]at h2
    exact AB7 (AHq l) o c h2 (by rw[ABt]at h2;omega)
  ·rw[hw]
   refine⟨by simp[grow,putRow,AsE,Sort.ahead],rfl,rfl,rfl,fun b' h1 h2=> ?_⟩
   have hne:b'≠b:=by intro e;rw[e,hown]at h2;cases h2
   simp only[grow,putRow]
   rw[Array.getElem?_append,if_pos (by rw[AsE];exact h1),Auh _ _ hne]
   rfl
theorem AHm {P:Program} {Ae:Nat->Option FuncId} {G:Gl} {g k:Nat} (hid:Ae g=some k)
 (h0:∀(p:Option Addr) (cap:Nat) (w:World),Calls P k #[.slice p 0 cap] w fun e w'=>e= .returned (.slice p 0 cap)/\w' =w)
 (hc:∀(blk off cap:Nat) (zs:List Int) (w:World),Holds (Value.int .i64) w blk off zs.toArray->zs.length<=9223372036854775807->zs.length<=cap->
  Calls P k #[.slice (some ⟨blk,off,none⟩) zs.length cap] w fun e w'=>e= .returned (.slice (some ⟨blk,off,none⟩) (compact zs).length cap)/\∃q,w' =putRow (Value.int .i64) (Sort.ahead w q) blk off (compact zs++List.replicate (zs.length-(compact zs).length) 0).toArray)
 (l:List Int) (hl:l.length<=4194304) (hcl:(compact l).length<=l.length):Den P Ae G g [.arr 0] [.arr 1 0 l.length (T.ints l)] (.sl 0 1 (compact l).length (T.ints (compact l))) [.dead]:=by
 refine Axj (given:=[.arr 1 0 l.length (T.ints l)]) fun id hi F hF inv xs hx=> ?_
 rw[hid]at hi
 cases hi
 obtain⟨x,r,rfl,h1,h2⟩:=hx.Nf
 obtain rfl:=h2.N8
 obtain⟨a,cap,rfl,hcap,_,_,hm⟩:=AAS inv rfl h1
 rcases hm with hm | ⟨b,o,rfl,hown,hhas⟩
 ·subst hm
  have:l=[]:=List.eq_nil_of_length_eq_zero (by omega)
  subst this
  refine(h0 a 0 F.w0).mono fun e w' ⟨he,hw⟩=>⟨a,0,he,⟨Nat.le_refl _,by omega⟩,.inl rfl,?_⟩
  rw[hw];exact Kept.refl F
 ·refine(hc b o cap l F.w0 (AFb hhas) (by omega) hcap.1).mono fun e w' ⟨he,q,hw⟩=>⟨_,cap,he,⟨by omega,hcap.2⟩,.inr ⟨b,o,rfl,?_,fun _=>by rw[hown];simp⟩,?_⟩
  ·refine AxA (f:=putCells (Value.int .i64) o (compact l++List.replicate (l.length-(compact l).length) 0).toArray) hhas ?_ (AwV _ _ _) (fun c h1 _ i h2=> ?_) (AsZ _) (by simp;omega)
   ·rw[hw]
    simp only[putRow]
    rw[Auo]
    rfl
   ·simp only[AD3]at h2
    rw[AB7 _ o c (by simp;omega) (by omega)]
    simp[iv,List.getElem?_append,h2]
  ·rw[hw]
   refine⟨by simp[putRow,AsE,Sort.ahead],rfl,rfl,rfl,fun b' h1 h2=> ?_⟩
   have hne:b'≠b:=by intro e;rw[e,hown]at h2;cases h2
   simp only[putRow]
   rw[Auh _ _ hne]
   rfl
end Go.Eng
namespace Go.Eng
open Go.Lib Go.RowKit Go.Sort
def sv (l:List (List UInt8)):List Value:=l.map fun x=>Value.string (T.Ww x)
@[simp] theorem AKo (l:List (List UInt8)):(sv l).length=l.length:=by simp[sv]
theorem AGa (l:List (List UInt8)):Fj (sv l):=by
 intro v hv
 simp only[sv,List.mem_map]at hv
 obtain⟨x,_,rfl⟩:=hv
 rfl
theorem ALx {l:List (List UInt8)} {i:Nat} {v:V} {x:Value} (h1:(T.strs l)[i]? =some v) (h2:(sv l)[i]? =some x):v= .sc x:=by
 by_cases hi:i<l.length
 ·simp only[T.strs,sv,List.getElem?_map,hi,List.getElem?_eq_getElem,Option.map_some,Option.some.injEq]at h1 h2
  rw[<-h1,<-h2]
 ·rw[List.getElem?_eq_none (by simp;omega)]at h1;cases h1
theorem AJ3 {F:Fr} {given:List O} {k:Nat} {l:List (List UInt8)} {x:Value} (inv:Inv F F.β0 F.own0 (hp given) F.w0) (hk:hp given k= .arr 1 0 l.length (T.strs l)) (h:VR F F.β0 F.own0 (hp given) F.w0 (.arr k) x):
 ∃a cap,x= .slice a l.length cap/\(l.length<=cap/\cap<=9223372036854775807)/\(cap=0∨∃b o,a=some ⟨b,o,none⟩/\F.own0 b=some (k,[])/\Has F.w0 b o (sv l) cap):=by
 have ho:=inv.objs k
 rw[hk]at ho
 obtain⟨vs,h1,h2,h3,h4,h5⟩:=ho
 have hv:vs=sv l:=by
  apply List.ext_getElem?
  intro i
  by_cases hi:i<l.length
  ·have hlen:vs.length=l.length:=by rw[h1];simp
   have e1:vs[i]? =some (vs[i]'(by omega)):=by simp[hlen,hi]
   have:=h5 i (.sc (.string (T.Ww l[i]))) _ (by simp[T.strs,hi]) e1
   rw[e1]
   generalize vs[i]'(by omega)=y at this
   cases this with
   | sc _=>simp[sv,hi]
  ·rw[List.getElem?_eq_none (by rw[h1];simp;omega),List.getElem?_eq_none (by simp;omega)]
 subst hv
 cases h with
 | @arr _ e t len cs he=>
  rw[hk]at he
  simp only[Ac,Option.some.injEq,Prod.mk.injEq]at he
  obtain⟨rfl,rfl,rfl,rfl⟩:=he
  refine⟨_,_,rfl,h3,?_⟩
  rcases h4 with h4 | ⟨b,o,h4,h6,h7⟩
  ·exact .inl (by omega)
  ·exact .inr ⟨b,o,h4,h6,by rw[Nat.mul_one]at h7;exact h7⟩
 | goneA hd=>rw[hk]at hd;cases hd
theorem AD9 {P:Program} {Ae:Nat->Option FuncId} {G:Gl} {g:Nat} {args:List V} {given:List O} {l':List (List UInt8)}
 (h:∀id,Ae g=some id->∀F:Fr,F.Ae=Ae->F.G=G->Inv F F.β0 F.own0 (hp given) F.w0->∀xs,Pw (VR F F.β0 F.own0 (hp given) F.w0) args xs->
  Calls P id xs.toArray F.w0 fun e w'=>∃a cap,e= .returned (.slice a l'.length cap)/\(l'.length<=cap/\cap<=9223372036854775807)/\(cap=0∨∃b o,a=some ⟨b,o,none⟩/\Has w' b o (sv l') cap/\(b<F.w0.heap.size->F.own0 b≠none))/\Kept F w'):
 Den P Ae G g args given (.sl 0 1 l'.length (T.strs l')) (given.map fun _=> .dead):=by
 intro id hid F hF hG hb ht hn inv xs hx
 refine(h id hid F hF hG inv xs hx).mono fun e w' ⟨a,cap,he,hl,hm,hk⟩=> ?_
 subst he
 have hcs:∀own (i:Nat) (v:V) (x:Value),(T.strs l')[i]? =some v->(sv l')[i]? =some x->Ow F.Ae w' own (fun _ b=>F.G b) 0 F.ngiven ([]++ [i]) v x:=by
  intro own i v x h1 h2
  rw[ALx h1 h2]
  exact .sc (AGa l' x (List.mem_of_getElem? h2))
 rcases hm with hm | ⟨b,o,rfl,hhas,hown⟩
 ·refine⟨fun _=>none,⟨hk.size,hk.os,hk.tape,hk.output,hk.keep,fun b p h=>(by cases h),.own hl (by simp) (by simp) (.inl (by omega)) (hcs _),by simp[hn],fun i o hi=> ?_⟩⟩
  simp only[List.getElem?_map,Option.map_eq_some_iff]at hi
  obtain⟨_,_,rfl⟩:=hi
  trivial
 ·refine⟨fun b'=>if b' =b then some (F.ngiven,[])else none,⟨hk.size,hk.os,hk.tape,hk.output,hk.keep,fun b' p h=> ?_,.own hl (by simp) (by simp) (.inr ⟨b,o,rfl,if_pos rfl,by rw[Nat.mul_one];exact hhas⟩) (hcs _),by simp[hn],fun i o' hi=> ?_⟩⟩
  ·by_cases e:b' =b
   ·subst e;exact⟨TT hhas,hown⟩
   ·rw[if_neg e]at h;cases h
  ·simp only[List.getElem?_map,Option.map_eq_some_iff]at hi
   obtain⟨_,_,rfl⟩:=hi
   trivial
theorem AJz (w:World) (o:Obj):(w.alloc o).heap[w.heap.size]? =some o:=by
 show(w.heap.push o)[w.heap.size]? =some o
 rw[Array.getElem?_push,if_pos rfl]
theorem AIc (w:World) (o:Obj) {k:Nat} (h:k<w.heap.size):(w.alloc o).heap[k]? =w.heap[k]? :=by
 show(w.heap.push o)[k]? =w.heap[k]?
 rw[Array.getElem?_push,if_neg (by omega)]
theorem AGM (w:World) (o:Obj):(w.alloc o).heap.size=w.heap.size+1:=Array.size_push _
def pieces (l:List UInt8) (c:UInt8):List (List UInt8):=(splitB (T.Ww [c]) 0 (countB (T.Ww l) (T.Ww [c])) (T.Ww l)).map (·.data.toList)
abbrev AF3 (R:T.Rel):Prop:=∀(l:List UInt8) (c:UInt8),l.length<=4194304->R [T.Sb l,T.Sb [c]] [] (.sl 0 1 (pieces l c).length (T.strs (pieces l c))) []
abbrev AFm (R:T.Rel):Prop:=∀(ws:List (List UInt8)),ws.length<=4194304->ws≠ []->R [.arr 0,.fn 36 []] [.arr 1 0 ws.length (T.strs ws)] (.sl 0 1 (ws.filter fun w=> !decide (w=[])).length (T.strs (ws.filter fun w=> !decide (w=[])))) [.dead]
theorem AHM (l:List UInt8) (c:UInt8):(pieces l c).length=countB (T.Ww l) (T.Ww [c])+1:=by
 unfold pieces
 rw[List.length_map]
 exact splitB_all _ (by simp) 0 _ _ rfl
theorem AFf (l:List UInt8) (c:UInt8):sv (pieces l c)=(splitB (T.Ww [c]) 0 (countB (T.Ww l) (T.Ww [c])) (T.Ww l)).map Value.string:=by
 unfold sv pieces
 rw[List.map_map]
 refine List.map_congr_left fun x _=> ?_
 show Value.string (T.Ww x.data.toList)=Value.string x
 congr 1
theorem AJi {P:Program} {Ae:Nat->Option FuncId} {G:Gl} {g k b:Nat} {t:TypeId} {W:World} {m:Int} (hid:Ae g=some k) (hb:G b) (hW:G.is b=W.heap[b]?) (hm:W.cell? ⟨b,0,none⟩=some (.int .i64 m))
 (hc:∀(s sep:ByteArray) (m:Int) (w:World),s.size<4294967281->w.cell? ⟨b,0,none⟩=some (.int .i64 m)->1<=sep.size->
  Calls P k #[.string s,.string sep] w fun e w'=>
   e= .returned (.slice (some ⟨w.heap.size,0,none⟩) (countB s sep+1) (countB s sep+1))/\w' =w.alloc (.cells ((splitB sep 0 (countB s sep) s).map Value.string).toArray t)):AF3 (Den P Ae G g):=by
 intro l c hl
 refine AD9 (given:=[]) fun id hid' F hF hG inv xs hx=> ?_
 rw[hid]at hid'
 cases hid'
 obtain⟨x0,r0,rfl,h1,h2⟩:=hx.Nf
 obtain⟨x1,r1,rfl,h3,h4⟩:=h2.Nf
 obtain rfl:=h4.N8
 have e0:=JE h1
 have e1:=JE h3
 subst e0 e1
 have hg:=inv.glob b (by rw[hG];exact hb)
 have hh:F.w0.heap[b]? =W.heap[b]? :=by rw[hg.2.2,hG,hW]
 have hcell:F.w0.cell? ⟨b,0,none⟩=some (.int .i64 m):=by
  rw[<-hm]
  simp only[World.cell?,hh]
 have hsz:(T.Ww l).size<4294967281:=by rw[T.ArQ];omega
 have h1s:1<=(T.Ww [c]).size:=by rw[T.ArQ];simp
 have hle:=countB_le (T.Ww [c]) h1s _ (T.Ww l) (Nat.le_refl _)
 rw[T.ArQ]at hle
 refine(hc (T.Ww l) (T.Ww [c]) m F.w0 hsz hcell h1s).mono fun e w' ⟨he,hw'⟩=> ?_
 have hpl:=AHM l c
 refine⟨some ⟨F.w0.heap.size,0,none⟩,countB (T.Ww l) (T.Ww [c])+1,by rw[he,hpl],⟨by omega,by omega⟩,.inr ⟨F.w0.heap.size,0,rfl,⟨AGa _,_,t,by rw[hw'];exact AJz _ _,?_,by rw[AKo,hpl];exact Nat.le_refl _,?_⟩,fun h=>absurd h (by omega)⟩,?_⟩
 ·rw[<-AFf];simp[hpl]
 ·intro i hi
  rw[<-AFf];simp
 ·rw[hw']
  refine⟨by rw[AGM];omega,rfl,rfl,rfl,fun b' hb' _=>AIc _ _ hb'⟩
theorem AK4 {w:World} {b o n:Nat} {l:List (List UInt8)} (h:Has w b o (sv l) n):Holds Value.string w b o (l.map T.Ww).toArray:=by
 intro j hj
 simp only[List.size_toArray,List.length_map]at hj
 have hr:=(DF h).2 j (by simpa using hj)
 obtain⟨_,c,et,hb,_,_,_⟩:=h
 refine⟨?_,?_⟩
 ·rw[hr]
  simp[sv,hj]
 ·unfold World.frozen?
  simp only[hb]
  simp
theorem AI9 (l:List (List UInt8)) (o:Nat) (c:Array Value) {i:Nat} (hi:i<l.length) (hc:o+i<c.size):(putCells Value.string o (l.map T.Ww).toArray c)[o+i]? =(sv l)[i]? :=by
 simp only[putCells,Array.getElem?_mapIdx,Array.getElem?_eq_getElem hc,Option.map_some]
 rw[if_pos ⟨by omega,by simp;omega⟩]
 simp[sv,hi]
theorem AJk (w:List UInt8):decide (T.Ww w=ByteArray.empty)=decide (w=[]):=by
 have:(T.Ww w=ByteArray.empty)↔w=[]:=by
  constructor
  ·intro h
   have h2:=congrArg ByteArray.size h
   rw[T.ArQ]at h2
   exact List.eq_nil_of_length_eq_zero h2
  ·intro h;subst h;rfl
 simp[this]
theorem AIp (ws:List (List UInt8)):(ws.map T.Ww).filter (fun x=> !decide (x=ByteArray.empty))=(ws.filter fun w=> !decide (w=[])).map T.Ww:=by
 rw[List.filter_map]
 congr 1
 apply List.filter_congr
 intro w _
 show(!decide (T.Ww w=ByteArray.empty))=_
 rw[AJk]
theorem AIm {P:Program} {Ae:Nat->Option FuncId} {G:Gl} {g k k36:Nat} (hid:Ae g=some k) (hid36:Ae 36=some k36)
 (hc:∀(blk off cap:Nat) (d:Array ByteArray) (w:World),Holds Value.string w blk off d->d.size<=9223372036854775807->d.size<=cap->
  Calls P k #[.slice (some ⟨blk,off,none⟩) d.size cap,.func (.func k36) #[] #[]] w fun e w'=>e= .returned (.slice (some ⟨blk,off,none⟩) (d.toList.filter fun x=> !decide (x=ByteArray.empty)).length cap)/\
   ∃q,w' =putRow Value.string (Sort.ahead w q) blk off ((d.toList.filter fun x=> !decide (x=ByteArray.empty))++List.replicate (d.size-(d.toList.filter fun x=> !decide (x=ByteArray.empty)).length) ByteArray.empty).toArray):AFm (Den P Ae G g):=by
 intro ws hl hne
 refine AD9 (given:=[.arr 1 0 ws.length (T.strs ws)]) fun id hid' F hF hG inv xs hx=> ?_
 rw[hid]at hid'
 cases hid'
 obtain⟨x0,r0,rfl,h1,h2⟩:=hx.Nf
 obtain⟨x1,r1,rfl,h3,h4⟩:=h2.Nf
 obtain rfl:=h4.N8
 obtain⟨a,cap,rfl,hcap,hm⟩:=AJ3 inv rfl h1
 have hx1:x1= .func (.func k36) #[] #[]:=by
  cases h3 with
  | fn hf hl hc=>
   rename_i vs
   rw[hF,hid36]at hf
   cases hf
   have:vs=[]:=List.eq_nil_of_length_eq_zero (by simpa using hl)
   subst this;rfl
 subst hx1
 have hpos:0<ws.length:=List.length_pos_iff.2 hne
 rcases hm with hm | ⟨b,o,rfl,hown,hhas⟩
 ·omega
 have hd:(ws.map T.Ww).toArray.size=ws.length:=by simp
 have hcall:=hc b o cap (ws.map T.Ww).toArray F.w0 (AK4 hhas) (by rw[hd];omega) (by rw[hd];exact hcap.1)
 simp only[hd,List.toList_toArray]at hcall
 rw[AIp,List.length_map]at hcall
 have hfl:=List.length_filter_le (fun w:List UInt8=> !decide (w=[])) ws
 generalize(ws.filter fun w=> !decide (w=[]))=ks at hcall hfl⊢
 refine hcall.mono fun e w' ⟨he,q,hw⟩=>⟨_,cap,he,⟨by omega,hcap.2⟩,.inr ⟨b,o,rfl,?_,fun _=>by rw[hown];simp⟩,?_⟩
 ·have hrow:(ks.map T.Ww++List.replicate (ws.length-ks.length) ByteArray.empty)=(ks++List.replicate (ws.length-ks.length) []).map T.Ww:=by
   rw[List.map_append,List.map_replicate];rfl
  rw[hrow]at hw
  refine AxA (f:=putCells Value.string o ((ks++List.replicate (ws.length-ks.length) []).map T.Ww).toArray) hhas ?_ (AwV _ _ _) (fun c h1 _ i h2=> ?_) (AGa _) (by simp;omega)
  ·rw[hw]
   simp only[putRow]
   rw[Auo]
   rfl
  ·simp only[AKo]at h2
   rw[AI9 _ o c (by simp;omega) (by omega)]
   simp[sv,List.getElem?_append,h2]
 ·rw[hw]
  refine⟨by simp[putRow,AsE,Sort.ahead],rfl,rfl,rfl,fun b' h1 h2=> ?_⟩
  have hne:b'≠b:=by intro e;rw[e,hown]at h2;cases h2
  simp only[putRow]
  rw[Auh _ _ hne]
  rfl
end Go.Eng
namespace Go.Eng.T
open Go.Lib
set_option maxRecDepth 20000
set_option maxHeartbeats 8000000
theorem AIF {w:List UInt8} (h1:w≠ [108,105,109,105,116]) (h2:w≠ [115,116,114,105,112]) (h3:kindOf w=0) (n:List Int):Ark w n=⟨0,0,AsO⟩:=by
 rw[AC3 (fun h=>h1 h.1) (fun h=>h2 h.1),h3]
 rfl
theorem ADf (D:Dn) (hSp:Go.Eng.AF3 (D 14)) (hDf:Go.Eng.AFm (D 37)) (hWo:∀l:List UInt8,(Go.Eng.pieces l 32).filter (fun w=> !decide (w=[]))=Awt l/\(Go.Eng.pieces l 32).length<=l.length+1/\Go.Eng.pieces l 32≠ [])
 (hC:EF (D 38)) (hNs:AIO ADv (D 39)) (hLW:AF2 (D 43)) (hTA:AC8 (D 44))
 (hEv:AyW (D 40)) (hAp:MS (D 41)) (hTd:AIM (D 42)) (hN0:AKC (D 46)) (hN1:AIS (D 45)):AGB (Body D AtQ):=by
 intro w l ok hw hl
 have hsz:=ok.sz
 have hwo:=AHa l
 obtain⟨q1,q2,q3⟩:=hWo l
 simp -implicitDefEqProofs
 refine Aa (show _ from hSp l 32 (by omega)) ?_
 simp -implicitDefEqProofs
 refine Aa (show _ from hDf (Go.Eng.pieces l 32) (by omega) q3) ?_
 rw[q1]
 unfold AsN
 cases hws:Awt l with
 | nil=>
  by_cases h2:l.length>200
  ·have h2':200<(l.length:Int):=by omega
   simp -implicitDefEqProofs [h2,h2']
   refine Aa (hC w hsz) ?_
   simp -implicitDefEqProofs [Atb]
  ·have h2':¬200<(l.length:Int):=by omega
   simp -implicitDefEqProofs [h2,h2']
   refine Aa (hC w hsz) ?_
   simp -implicitDefEqProofs [Atb]
 | cons word r=>
  rw[hws]at hwo
  have hlr:=hwo.1
  simp only[List.length_cons]at hlr
  by_cases h2:l.length>200
  ·have h2':200<(l.length:Int):=by omega
   have c0:¬((r.length:Int)+1=0):=by omega
   simp -implicitDefEqProofs [h2,h2',c0]
   refine Aa (hC w hsz) ?_
   simp -implicitDefEqProofs [Atb]
  ·have h2':¬200<(l.length:Int):=by omega
   have c0:¬((r.length:Int)+1=0):=by omega
   have c1:(1:Int)<=r.length+1:=by omega
   have e6:((r.length:Int)+1).toNat=r.length+1:=by omega
   have e5:part (strs (word::r)) 1 1 r.length=strs r:=by
    simp only[part,strs,List.map_cons,Nat.one_mul,Nat.mul_one,List.drop_succ_cons,List.drop_zero]
    rw[List.take_of_length_le (by simp)]
   simp -implicitDefEqProofs [h2,h2',c0,c1,e5,e6]
   have hwr:ALs r:=⟨by omega,fun x hx=>by have:=(hwo.2 x (List.mem_cons_of_mem _ hx)).2;omega⟩
   refine Aa (hNs r hwr) ?_
   by_cases ha:Au2 r=true
   rotate_left
   ·have ha':Au2 r=false:=by simpa using ha
    simp -implicitDefEqProofs [ha']
    refine Aa (hC w hsz) ?_
    simp -implicitDefEqProofs [Atb]
   have hnl:=ADn r
   have hrg:=AKJ r
   have hst:(strs (word::r))[0]? =some (Sb word):=rfl
   have hr0:(0:Int)<=r.length:=by omega
   rw[AJ7 ha]
   generalize numsOf r=n at hnl hrg
   have hn1:n.length<=4194000:=by omega
   simp -implicitDefEqProofs [ha]
   rw[<-hnl]
   clear hnl
   have hk:=AIT word
   have hword:word≠ []:=(hwo.2 word (by simp)).1
   have hee:=hEv word n (by omega) hword
   have hse:=AGF word n
   refine Aa (show _ from hee) ?_
   clear hee
   by_cases ke:0<(Ark word n).kind
   ·have e:Ax7 w word n=((AA w (Ark word n)).1,if(AA w (Ark word n)).2=true then wOk else wNo):=by
     have z1:¬(word=[119,111,114,108,100]/\n≠ []):=by
      rintro ⟨a,_⟩
      rw[AIF (by rw[a];decide) (by rw[a];decide) (by rw[a];decide) n]at ke
      exact absurd ke (by decide)
     have z2:¬(word=[97,108,108]/\n=[]):=by
      rintro ⟨a,_⟩
      rw[AIF (by rw[a];decide) (by rw[a];decide) (by rw[a];decide) n]at ke
      exact absurd ke (by decide)
     unfold Ax7
     rw[if_neg z1,if_neg z2,if_pos ke]
    rw[e]
    generalize Ark word n=ev at hse ke⊢
    obtain⟨kd,en,⟨el,ed,es,ex⟩⟩:=ev
    have ke':0<kd:=ke
    simp -implicitDefEqProofs [ke']
    refine Aa (hAp w ⟨kd,en,⟨el,ed,es,ex⟩⟩ hsz (by omega)) ?_
    generalize AA w ⟨kd,en,⟨el,ed,es,ex⟩⟩=p
    obtain⟨x,dn⟩:=p
    simp -implicitDefEqProofs
    refine Aa (hTd dn) ?_
    simp -implicitDefEqProofs [wOk,wNo]
   ·have hsd:Ax7 w word n=if word=[119,111,114,108,100]/\n≠ []then(if(AnV (n.getD 0 0) n.tail).2=true then((AnV (n.getD 0 0) n.tail).1,wOk)else(w,wNo))
     else if word=[97,108,108]/\n=[]then(AGj w,wOk)else if n.length=0 then(w,(AsK w word).getD Atb)else if n.length=1 then(w,(At3 w word (n.getD 0 0)).getD Atb)else(w,Atb):=by
     unfold Ax7;rw[if_neg ke]
    rw[hsd]
    clear hsd
    generalize Ark word n=ev at hse ke⊢
    obtain⟨kd,en,⟨el,ed,es,ex⟩⟩:=ev
    have ke':¬0<kd:=ke
    simp -implicitDefEqProofs [ke']
    refine Aa (hC w hsz) ?_
    by_cases w1:word=[119,111,114,108,100]/\n≠ []
    ·obtain⟨w1a,w1b⟩:=w1
     cases n with
     | nil=>exact absurd rfl w1b
     | cons x st=>
      have hlw:=hLW x st (by simp at hn1;omega)
      have p0:(0:Int)<(st.length:Int)+1+1:=by omega
      have p1:(0:Int)<(st.length:Int)+1:=by omega
      have p2:(1:Int)<=(st.length:Int)+1:=by omega
      have p3:((st.length:Int)+1).toNat=st.length+1:=by omega
      have p4:part (ints (x::st)) 1 1 st.length=ints st:=by
       simp only[part,ints,List.map_cons,Nat.one_mul,Nat.mul_one,List.drop_succ_cons,List.drop_zero]
       rw[List.take_of_length_le (by simp)]
      simp -implicitDefEqProofs [w1a,hst,p0,p1,p2,p3,p4]
      refine Aa (show _ from hlw) ?_
      generalize AnV x st=p
      obtain⟨y,dn⟩:=p
      cases dn
      ·simp -implicitDefEqProofs [wNo]
      ·simp -implicitDefEqProofs [wOk]
    rw[if_neg w1]
    have pn:(0:Int)<(n.length:Int)+1:=by omega
    by_cases w2:word=[97,108,108]/\n=[]
    ·obtain⟨w2a,rfl⟩:=w2
     simp -implicitDefEqProofs [w2a,hst]
     refine Aa (hTA w hw) ?_
     simp -implicitDefEqProofs [wOk]
    rw[if_neg w2]
    by_cases a1:word=[119,111,114,108,100]
    ·have hn:n=[]:=by
      by_cases hn:n=[]
      ·exact hn
      ·exact absurd ⟨a1,hn⟩ w1
     subst hn
     subst a1
     simp -implicitDefEqProofs [hst]
     refine Aa (hN0 w _ ok) ?_
     simp -implicitDefEqProofs [AsK,Atb]
    ·by_cases l0:n=[]
     ·subst l0
      have a2:¬word=[97,108,108]:=fun h=>w2 ⟨h,rfl⟩
      simp -implicitDefEqProofs [a1,a2,hst]
      refine Aa (hN0 w _ ok) ?_
      generalize AsK w word=a
      cases a
      ·simp -implicitDefEqProofs [Atb]
      ·simp -implicitDefEqProofs
     ·have ll:¬n.length=0:=fun h=>l0 (List.eq_nil_of_length_eq_zero h)
      have l0':¬(n.length:Int)=0:=by omega
      by_cases l1:n.length=1
      ·obtain⟨x,rfl⟩:=AJN l1
       by_cases a2:word=[97,108,108]
       ·subst a2
        simp -implicitDefEqProofs [hst]
        refine Aa (hN1 w _ x ok (hrg x (by simp))) ?_
        simp -implicitDefEqProofs [At3,Atb]
       ·simp -implicitDefEqProofs [a1,a2,hst]
        refine Aa (hN1 w _ x ok (hrg x (by simp))) ?_
        generalize At3 w word x=a
        cases a
        ·simp -implicitDefEqProofs [Atb]
        ·simp -implicitDefEqProofs
      ·have l1':¬(n.length:Int)=1:=by omega
       by_cases a2:word=[97,108,108]
       ·subst a2
        simp -implicitDefEqProofs [hst,l0,l1,l0',l1',ll,pn]
        simp -implicitDefEqProofs [Atb]
       ·simp -implicitDefEqProofs [a1,a2,hst,l0,l1,l0',l1',ll,pn]
        simp -implicitDefEqProofs [Atb]
end Go.Eng.T
namespace Go.Eng
open Go.Lib
def As9 (c:UInt8):List UInt8->List UInt8->List (List UInt8)
 | [],w=> [w]
 | b::r,w=>if b=c then w::As9 c r []else As9 c r (w++ [b])
theorem index_hit (c:UInt8) (r:List UInt8):index (c::r) [c]=0:=by
 rw[index];simp[List.isPrefixOf]
theorem AIB {b c:UInt8} (h:¬b=c) (r:List UInt8):index (b::r) [c]=if index r [c]== -1 then -1 else index r [c]+1:=by
 rw[index]
 have hp:([c]:List UInt8).isPrefixOf (b::r)=false:=by
  simp only[List.isPrefixOf,Bool.and_true,beq_eq_false_iff_ne,ne_eq]
  exact fun e=>h e.symm
 rw[hp];rfl
theorem ABq (c:UInt8):∀(l w:List UInt8) (k:Nat),l.count c<=k->∃p ps,splitK [c] 0 k l=p::ps/\As9 c l w=(w++p)::ps
 | [],w,k,_=>by
  refine⟨[],[],?_,by simp[As9]⟩
  cases k with
  | zero=>rfl
  | succ k=>unfold splitK;rw[if_pos (by simp[index])]
 | b::r,w,k,hk=>by
  by_cases hb:b=c
  ·subst hb
   rw[List.count_cons_self]at hk
   obtain⟨k',rfl⟩:∃k',k=k'+1:=⟨k-1,by omega⟩
   obtain⟨p,ps,h1,h2⟩:=ABq b r [] k' (by omega)
   refine⟨[],p::ps,?_,?_⟩
   ·unfold splitK
    rw[index_hit,if_neg (by decide)]
    simp[h1]
   ·rw[As9,if_pos rfl,h2];simp
  ·rw[List.count_cons_of_ne (fun e=>hb e)]at hk
   obtain⟨p,ps,h1,h2⟩:=ABq c r (w++ [b]) k hk
   refine⟨b::p,ps,?_,?_⟩
   ·cases k with
    | zero=>unfold splitK at h1⊢;cases h1;rfl
    | succ k=>
     unfold splitK at h1⊢
     rw[AIB hb]
     by_cases hi:index r [c]= -1
     ·rw[if_pos (by simp[hi])]at h1
      rw[hi]
      cases h1
      rfl
     ·rw[if_neg (by simpa using hi)]at h1
      have hge:=index_ge r [c]
      obtain⟨j,hj⟩:∃j:Nat,index r [c]=j:=⟨(index r [c]).toNat,by omega⟩
      have e2:(if(index r [c]== -1)=true then(-1:Int)else index r [c]+1)=((j+1:Nat):Int):=by
       rw[if_neg (by simpa using hi),hj];omega
      rw[e2,if_neg (by simp only[beq_iff_eq];omega)]
      rw[hj]at h1
      simp only[Int.toNat_natCast,Nat.add_zero,List.length_cons,List.length_nil,Nat.zero_add]at h1⊢
      cases h1
      simp
   ·rw[As9,if_neg hb,h2];simp
theorem ADN (l:List UInt8) (c:UInt8):pieces l c=As9 c l []:=by
 obtain⟨p,ps,h1,h2⟩:=ABq c l [] (countB (T.Ww l) (T.Ww [c])) (by
  show _<=count l [c]
  rw[count_one];exact Nat.le_refl _)
 unfold pieces
 rw[splitB_data]
 show splitK [c] 0 _ l=_
 rw[h1,h2];simp
theorem Azq:∀(l w:List UInt8),(As9 32 l w).filter (fun x=> !decide (x=[]))=T.wGo l w
 | [],w=>by
  rw[As9,T.AIW]
  by_cases h:w=[]<;>simp[h]
 | c::r,w=>by
  rw[As9,T.wGo]
  by_cases h:c=32
  ·rw[if_pos h,if_pos h,List.filter_cons]
   have:=Azq r []
   by_cases hw:w=[]<;>simp[hw,this]
  ·rw[if_neg h,if_neg h]
   exact Azq r (w++ [c])
theorem AxE (c:UInt8):∀(l w:List UInt8),(As9 c l w).length<=l.length+1/\As9 c l w≠ []
 | [],w=>by simp[As9]
 | b::r,w=>by
  have h1:=AxE c r []
  have h2:=AxE c r (w++ [b])
  rw[As9]
  split
  ·refine⟨by simp;omega,by simp⟩
  ·refine⟨by simp;omega,h2.2⟩
theorem AJh (l:List UInt8):(pieces l 32).filter (fun w=> !decide (w=[]))=T.Awt l/\(pieces l 32).length<=l.length+1/\pieces l 32≠ []:=by
 rw[ADN]
 exact⟨Azq l [],(AxE 32 l []).1,(AxE 32 l []).2⟩
end Go.Eng
namespace Go.Eng.T
set_option maxRecDepth 20000
set_option maxHeartbeats 2000000
theorem AI2 (w:World) (e:Event):Af (AA w e).1<=Af w+w.ends.length+3001+Hy e:=by
 have h1:=AkM w e
 have h2:=AnN (AA w e).1
 have h3:=Am5 w
 omega
end Go.Eng.T
namespace Go.Eng.T
set_option maxRecDepth 20000
set_option maxHeartbeats 2000000
theorem Ec {x:Int} (h:-1000<=x/\x<=1000):Py x:=by unfold Py;omega
structure Ah8 (r:AX):Prop where
 len:r.stages.length<=3
 ver:Py r.version
 st:DK r.stages
 pos:Py r.pos
structure Ana (e:Ai):Prop where
 sm:ArD e
 vers:DK e.versions
 tags:DK e.tags
set_option maxHeartbeats 2000000
structure Al4 (d:BP):Prop where
 ver:Py d.deal.version
 tags:DK d.deal.tags
 tries:Py d.tries
 up:DK d.up
theorem Aob (h seen:Hello) (vs tags:List Int) (key:Int):Py (O1 h seen vs tags key).version/\DK (O1 h seen vs tags key).tags:=by
 unfold O1
 split
 ·rename_i hc
  simp only[Bool.and_eq_true]at hc
  have hf:=hc.2.1
  unfold Fu Kr at hf
  simp only[Bool.and_eq_true,decide_eq_true_eq]at hf
  obtain⟨_,⟨hv,he⟩,_⟩:=hf
  refine⟨Ec (by unfold InV at hv;dsimp only;omega),fun t ht=> ?_⟩
  obtain⟨x,hx,rfl⟩:=List.mem_map.1 ht
  have:=(AlW.1 he).1.1 x hx
  unfold SY at this
  simp only[Bool.and_eq_true,decide_eq_true_eq]at this
  exact Ec (by have:=this.1;unfold M6 at this;omega)
 ·exact⟨Ec (by unfold E9;dsimp only;omega),fun t ht=>by cases ht⟩
theorem AoK (h:Hello) (path:List EG) (vs tags:List Int) (key:Int):Py (Hl h path vs tags key).version/\DK (Hl h path vs tags key).tags:=by
 unfold Hl
 split
 ·exact Aob _ _ _ _ _
 ·exact⟨Ec (by unfold E9;dsimp only;omega),fun t ht=>by cases ht⟩
theorem Ah6 (h:Hello) (path:List EG):0<=(Bg h path).2.1/\(Bg h path).2.1<=2/\((Bg h path).2.2=true->Dt h=true):=by
 unfold Bg
 split
 ·rename_i hh
  split
  ·exact⟨by dsimp only;omega,by dsimp only;omega,fun _=>hh⟩
  ·split
   ·exact⟨by dsimp only;omega,by dsimp only;omega,fun _=>hh⟩
   ·exact⟨by dsimp only;omega,by dsimp only;omega,fun h=>by cases h⟩
 ·exact⟨by dsimp only;omega,by dsimp only;omega,fun h=>by cases h⟩
theorem Ami {h x:Hello} (hh:Dt h=true):DK (JN h x):=by
 intro t ht
 unfold JN at ht
 rcases List.mem_append.1 ht with ht | ht
 ·have:=RF (Adj hh) t ((Ank _ _).subset ht)
  exact Ec (by unfold InV at this;omega)
 ·obtain⟨y,hy,rfl⟩:=List.mem_map.1 ht
  have:=(List.mem_filter.1 hy).2
  unfold Abb inB at this
  simp only[Bool.and_eq_true,decide_eq_true_eq]at this
  have:=this.2
  unfold Py
  unfold M6 at this
  omega
theorem Apg (h:Hello) (path:List EG) (vs tags:List Int) (key:Int):Al4 (Xh h path vs tags key):=by
 have h1:=AoK (Bg h path).1 path vs tags key
 have h2:=Ah6 h path
 unfold Xh
 split
 ·rename_i hc
  exact⟨h1.1,h1.2,Ec (by dsimp only;omega),Ami (h2.2.2 hc)⟩
 ·exact⟨Ec (by unfold E9;dsimp only;omega),(fun t ht=>by cases ht),Ec (by dsimp only;omega),(fun t ht=>by cases ht)⟩
set_option maxRecDepth 100000
set_option maxHeartbeats 4000000
def enN (l:List Nat):List Nat:=l.flatMap fun t=> [t,0]
set_option maxRecDepth 100000
set_option maxHeartbeats 4000000
def hbN (vs A g B:List Nat) (k:Nat):List Nat:=vs.length::(vs++k::(enN A++(g++enN B)))
def Like (a b:Nat):Prop:=a % 2147483647=b % 2147483647
theorem Like.add {a b c d:Nat} (h:Like a b) (h':Like c d):Like (a+c) (b+d):=by
 unfold Like at *
 rw[Nat.add_mod,h,h',<-Nat.add_mod]
theorem Like.mul {a b c d:Nat} (h:Like a b) (h':Like c d):Like (a*c) (b*d):=by
 unfold Like at *
 rw[Nat.mul_mod,h,h',<-Nat.mul_mod]
theorem Like.trans {a b c:Nat} (h:Like a b) (h':Like b c):Like a c:=Eq.trans h h'
theorem Like.symm {a b:Nat} (h:Like a b):Like b a:=Eq.symm h
set_option maxRecDepth 100000
set_option maxHeartbeats 4000000
def VIn (b:Int) (l:List Int):Prop:=Up l/\∃a,(a=2∨a=3)/\∀x,x∈l->x=1∨x=a∨x=b
theorem AIA {e:Ai} (h:Au e=true):AQ e.versions=true/\FI e.tags=true/\e.tags.any BH=false/\e.path.length<=4/\∀b,b∈e.path->IL b=true:=by
 unfold Au at h
 simp only[Bool.and_eq_true,decide_eq_true_eq,Bool.not_eq_true',List.all_eq_true]at h
 exact⟨h.1,h.2.2.1,h.2.2.2.1,h.2.2.2.2.1,h.2.2.2.2.2.1⟩
structure ALX (b:Int) (e:Ai):Prop where
 ok:Au e=true
 vers:VIn b e.versions
 tags:AjF e.tags 3
open Go.Lib
set_option maxHeartbeats 2000000
def zeroAt (t:Int):World:={Wl with now:=t}
structure CI (w:World) (k:Nat):Prop where
 wd:Ap w=true∨∃t,0<=t/\t<=10000/\w=zeroAt t
 log:Vh w.ends.length w
 sz:Af w<=300+20000*k
theorem Atk {x:Int} (h:-100000<=x/\x<=100000):Py x:=by unfold Py;omega
theorem ADL {l:List Int} (h:AQ l=true):DK l:=fun x hx=>by
 have:=RF h x hx
 unfold InV at this
 exact Atk (by omega)
theorem AJX {l:List Int} (h:allIn l 0 255=true):DK l:=fun x hx=>by
 unfold allIn at h
 have:=List.all_eq_true.1 h x hx
 simp only[decide_eq_true_eq]at this
 unfold M6 at this
 exact Atk (by omega)
theorem AI8 (w:World) (i:Int):AyE (KI w i):=by
 have z:AyE Md:=⟨⟨Atk (by decide),fun x hx=>by cases hx⟩,Atk (by decide),fun x hx=>by cases hx⟩
 unfold KI
 split
 ·split
  ·unfold MO
   split
   ·have h:=Apg (Ho ‹Ai› (16*clip w.now+i)) (Ai.path ‹_›) w.server w.tags w.key
    exact⟨⟨h.ver,h.tags⟩,h.tries,h.up⟩
   ·exact z
  ·exact z
 ·exact z
theorem AF6 {w:World} {k:Nat} (h:CI w k) (hk:k<=100):Art w/\Af w<=4190000:=by
 have hs:=h.sz
 have hlog:∀l,l∈w.log->Py l.fin/\AyE l.dialed:=by
  intro l hl
  obtain⟨⟨a,b⟩,w0,i,e⟩:=h.log l hl
  have hel:=FE (w:=w) (by omega)
  refine⟨by unfold Py;omega,?_⟩
  rw[e];exact AI8 w0 i
 refine⟨?_,by omega⟩
 rcases h.wd with hw | ⟨t,h1,h2,rfl⟩
 ·have p:=BU.1 hw
  have hb:=p.b
  have hc:=p.c
  unfold FM at hb
  unfold Es at hc
  simp only[Bool.and_eq_true,decide_eq_true_eq]at hb hc
  have hr:=Abf hb.1
  have hr2:=hb.1
  unfold AP at hr2
  simp only[Bool.and_eq_true,decide_eq_true_eq]at hr2
  refine⟨by omega,ADL p.reach.1,⟨?_,?_,?_⟩,⟨?_,?_⟩,?_,hlog⟩
  ·have:=hr2.2.1.1.1
   unfold NJ at this
   exact Atk (by omega)
  ·intro x hx
   obtain⟨i,hi,rfl⟩:=List.mem_iff_getElem.1 hx
   have:=AfY hr2.1 hi
   rw[getD_at hi]at this
   unfold NJ at this
   exact Atk (by omega)
  ·exact Atk (by omega)
  ·have:=hc.2.2.1
   unfold M6 at this
   exact Atk (by omega)
  ·have h3:=hc.2.2.2.1
   have h4:=hc.2.1
   unfold M6 at h3
   exact Atk (by omega)
  ·intro e he
   have hp:=AIA (p.ends e he)
   refine⟨ADL hp.1,?_⟩
   have h2:=hp.2.1
   unfold FI at h2
   simp only[Bool.and_eq_true]at h2
   exact AJX h2.2
 ·have nil:DK []:=fun x hx=>by cases hx
  have z:Py 0:=Atk (by decide)
  exact⟨by omega,nil,⟨z,nil,z⟩,⟨Atk (show -100000<=t/\t<=100000 by omega),z⟩,fun e he=>(by cases he),hlog⟩
theorem AFe {t:Int}:AQ (zeroAt t).server=false:=by
 show AQ []=false
 by_cases h:AQ []=true
 ·have:=ZT h;simp at this
 ·simpa using h
theorem AF0 {t:Int} (h0:0<=t) (h1:t<=10000) (e:Event):∃t',0<=t'/\t'<=10000/\(AA (zeroAt t) e).1=zeroAt t':=by
 unfold AA
 split
 ·refine⟨t,h0,h1,?_⟩
  unfold CR
  rw[if_neg]
  unfold Lu
  simp only[Bool.and_eq_true,decide_eq_true_eq]
  rintro ⟨h,_⟩
  unfold NJ at h
  have:(zeroAt t).ends.length=0:=rfl
  omega
 split
 ·refine⟨t,h0,h1,?_⟩
  unfold Dc
  rw[if_neg]
  simp only[Bool.and_eq_true,decide_eq_true_eq]
  rintro ⟨_,h⟩
  unfold Hg at h
  have:AP (zeroAt t).rollout=false:=by
   show AP ⟨0,[],0,false⟩=false
   decide
  rw[this]at h
  cases h
 split
 ·refine⟨t,h0,h1,?_⟩
  unfold BS
  rw[if_pos (show(zeroAt t).reached=0 from rfl)]
 split
 ·refine⟨t,h0,h1,?_⟩
  unfold Br
  rw[if_neg]
  rintro ⟨h,_⟩
  unfold GN at h
  split at h
  ·rename_i hm
   unfold FP at hm
   rw[AFe]at hm
   cases hm
  ·cases h
 split
 ·refine⟨t,h0,h1,?_⟩
  unfold EC
  have:KT (zeroAt t).server e.n=([],false):=by
   unfold KT
   rw[if_neg]
   ·rfl
   ·unfold Tn
    rw[AFe]
    simp
  rw[this];rfl
 split
 ·refine⟨t,h0,h1,?_⟩
  unfold Fg
  split
  ·rfl
  ·rfl
 split
 ·refine⟨t,h0,h1,?_⟩
  unfold DX
  split
  ·rfl
  ·rfl
 split
 ·unfold ED
  split
  ·rename_i h
   obtain⟨a,b⟩:=h
   have e1:(zeroAt t).now=t:=rfl
   rw[e1]at b
   unfold NJ at a b
   exact⟨t+e.n,by omega,by omega,rfl⟩
  ·exact⟨t,h0,h1,rfl⟩
 ·exact⟨t,h0,h1,rfl⟩
theorem AHp {w:World} {k:Nat} (h:CI w k) (e:Event) (he:Hy e<=1):Af (AA w e).1<=Af w+3010/\(∀k',Af (AA w e).1<=300+20000*k'->CI (AA w e).1 k'):=by
 have hl:=(AlP w e).2.2
 have hs:=AI2 w e
 have h6:w.ends.length<=6:=by
  rcases h.wd with hw | ⟨t,_,_,rfl⟩
  ·exact(BU.1 hw).few
  ·exact Nat.zero_le _
 refine⟨by omega,fun k' hk=>⟨?_,?_,hk⟩⟩
 ·rcases h.wd with hw | ⟨t,h1,h2,rfl⟩
  ·exact .inl (Aho hw)
  ·obtain⟨t',a,b,c⟩:=AF0 h1 h2 e
   exact .inr ⟨t',a,b,c⟩
 ·rw[hl]
  exact Ahr rfl h.log
theorem AJ8 {w:World} {k:Nat} (h:CI w k):∀n,n<=6->Af (Apu w n)<=Af w+3010*n/\(∀k',Af (Apu w n)<=300+20000*k'->CI (Apu w n) k')
 | 0,_=>⟨by show Af w<=_;omega,fun k' hk=>⟨h.wd,h.log,hk⟩⟩
 | n+1,hn=>by
  have ih:=AJ8 h n (by omega)
  have e:(CR (Apu w n) n).1=(AA (Apu w n) ⟨1,n,AsO⟩).1:=rfl
  have hc:=ih.2 (Af (Apu w n)) (by omega)
  have ha:=AHp hc ⟨1,n,AsO⟩ (by simp[Hy,Gm,AsO])
  show Af (CR (Apu w n) n).1<=_/\∀k',Af (CR (Apu w n) n).1<=_->CI (CR (Apu w n) n).1 k'
  rw[e]
  exact⟨by omega,ha.2⟩
theorem AIK:CI Wl 0:=by
 refine⟨.inr ⟨0,by omega,by omega,rfl⟩,fun x hx=>(by cases hx),?_⟩
 simp[Af,Wl,Cr,Db]
theorem AIL {w:World} {k k':Nat} (h:CI w k) (hk:k<=k'):CI w k':=⟨h.wd,h.log,by have:=h.sz;omega⟩
theorem AIE {w:World} {k:Nat} (h:CI w k) (l:List UInt8):CI (AsN w l).1 (k+1):=by
 have hw:=AIL h (Nat.le_succ k)
 have hs:=h.sz
 have h6:w.ends.length<=6:=by
  rcases h.wd with hw | ⟨t,_,_,rfl⟩
  ·exact(BU.1 hw).few
  ·exact Nat.zero_le _
 unfold AsN
 split
 ·exact hw
 rename_i hll
 have hwo:=AHa l
 split
 ·exact hw
 ·rename_i word r hws
  rw[hws]at hwo
  have hlr:=hwo.1
  simp only[List.length_cons]at hlr
  split
  ·unfold Ax7
   split
   ·rename_i hcond
    split
    ·rename_i hok
     generalize hn:(numsOf r).getD 0 0=n at hok⊢
     have hst:(numsOf r).tail.length<=200:=by rw[List.length_tail,ADn];omega
     generalize(numsOf r).tail=st at hok hst⊢
     have hz:=AGg n st
     have hlw:Ap (AnV n st).1=true/\(AnV n st).1.log=[]:=by
      unfold AnV at hok⊢
      split at hok
      ·rename_i hin
       rw[if_pos hin]
       unfold JV at hok⊢
       split at hok
       ·rename_i hwd
        rw[if_pos hwd]
        exact⟨hwd,rfl⟩
       ·cases hok
      ·cases hok
     refine⟨.inl hlw.1,?_,by show Af (AnV n st).1<=_;omega⟩
     intro x hx
     have hx:x∈(AnV n st).1.log:=hx
     rw[hlw.2]at hx
     cases hx
    ·exact hw
   split
   ·have:=AJ8 h w.ends.length h6
    exact this.2 (k+1) (by omega)
   split
   ·have he:=AGF word (numsOf r)
    have:=AHp h (Ark word (numsOf r)) he
    exact this.2 (k+1) (by omega)
   split
   ·exact hw
   split
   ·exact hw
   ·exact hw
  ·exact hw
end Go.Eng.T
namespace Go.Eng.T
set_option maxRecDepth 100000
set_option maxRecDepth 100000
def AvC:=mk 35736275673453 0xc020e0d240343182bb29008a40c0440404041d805848058628575d2011441808808083b00ac900808090c40aeaa420280301176014520110101760141201101 [72567770055682,0x2209000041cc86040820,0x8000084380442,0xe3288440030a07a60000000429440000080044004100044221ee16440e0207100520c41018002111c30202160,0x3080010d310450040c07a60000000429440000080044004100044221e9aac8c1c060e400312d292521e6080010523620427a22582,0x5108000f5148390e31123181a350a418e8805a005149813c49411c404238103e90f8a13d171827a2500201c81245d185a1de0d302908d100800dedc8680148a2041a6,0x80100000842804c2,0x4289134092c004000381a312074726f7065722168c481919591b985c9d1cca5a64726168834e8e6c2d9068cc81cd85a28d18103a39b2b161a73746e756f63c34e8d2c8eac3469ddbda1ce0d149490e5ace0,0x2a9135514e42108,0x8c10800005454948a6128,0xc100aaa29a928a827bcc7094010301e9800000010a5100000200110010400110887aaab2307018390014535251504f7040008291e10413d11294a,0x1c2000c59220100200040fa43e27a2827a2816a,0x28a6a4c014000042140218a,0x45120001025140441a8,0x28a6a4c20002084840000021124302061ca,0x42400104a420059200101ce190a061ea,5652181164552,0xc5d2200072101c95014a08228,0xa3092008030103be1a0808800828a5012a0c268,0xa4940c000042140228a,0x8292100102000214a06248,0x14928180020b484000002112c302062aa,0xc1ad0c51000c00440e02071002e900088196a0e2c8,7851204420328,8400960234248,0xc652200072109cb501ea08328,0xc69214c79014840064f5016a08368,0x839210010200021ca06388,0x83d210010200021ea06348,0x1e9c9a9896d000512109a00921dc12e4a450f44cf7e21208924f67281c9c807251a852265300462149299683ca66281c9280724208726a818002a8104c980c0a49272824a01e498a00000d502abae]
def AAe:=dT 0x305a424a6242108da8210842108822084211006d
def AsJ:=mk 0x40f64a0000087b8 0xc02e142011010101 [0x20800008403400000000429440000080044004100044221e816802,0x40010c21001080041d986040c22,0xc688b608e788d708a588950b0044084101e9800000010a5100000200110010400110887a42be629062300241dd86c41042,0x2508021080281da86c40860,0x31a1092d6109392d2126a52424a484249404270726a625a524b8000827a600000000214a20000040022002080022110f60882,0x4188002082000800020080089e9884210042422b86003100084904f454a3]
def Axg:=dT 25908355096
def AsL:=mk 558345752716 100729089 [0x8400000080402,0x40010821000080041d986040c22,0x4100061088004088048025080281de86841042]
def Axa:=dT 139276
def AsT:=mk 4466766021673 0x60100618a15c948045106022e0424022ec020043102bf0804500602382011010101 [0x8400000680402,0x40010821000080041d986040c22,208312730688,0x2608051080281da86840860,0x4100004080080482,0x1384f50801c90408a0,0x430840014eeded0e74680008c40ce0,0x44084004080009040cc0,0x8310001084000620410a,0x8212101008040140ed434206128,0xc205363630853a3930ba3985181818901a99101a1032363937bbb2b402148,0x2284200014840140ef434206168,0x84a40040124a204188,0xa3090001446980088000080212115c3420620c1c8,0x22842002040024a2061a8,0x14621800108400062041ea]
def AxP:=dT 0x1021440842110029
def Awy:=mk 35459388416140 393473 [4573968378364930,0x804001c4130028060002280c04281de868072200202202122]
def AEM:=dT 397324
def Au8:=mk 558349947144 393473 [0x8400000680402,0x10006108800020014117c33120786f62a346040e8d2dad2d9c68c481d1c985d1cf8d3c103630b4b261a6c616964834c8d8e4deef469d185a1de0d01a7469647561a34eeded0e7069d1c9d5a20d39ba373ab7b1e1a64726168834d8c2dcced2e7868c881d1c9bdc195c885a312074726f7065722168c881919591b985c9d1cca5a31206465646e617274732968cc81cd85a28d18903a39b2b161a302074736562c34e8e6c2d9068e48191b9968d1810323732d1a6c6c616346068406040e0d2e4e8e652d18189018103a34b6b4b614b462406040e8d2dad2d84ad1898189035b1b4ba10b46240d6c6d2e9868c881c98595b18f8d18903930b2b631f1a39206576697665722168c48195d9a5d995c885a33206572697465722168c88195c9a5d195c885a31206572697465722169959d85d1ce8d3a3930ba39d1a39206c616964c346440d8c2d2c9868c481b185a5930d18103630b4b261a303031203720646c726f772d68c0d480cc8191b1c9bddca5a303031203020646c726f772d68c0c0c480c88191b1c9bddcb5a303031203035203620646c726f773968c0c0c480d4c880d08191b1c9bddce5ac5c5211a041022]
def ACY:=dT 8200
attribute [simp] AvC AsJ AsL AsT Awy Au8
open Go.Lib
set_option maxRecDepth 20000
set_option maxHeartbeats 4000000
variable (R:Rel)
abbrev AGp:Prop:=∀(c:QM) (xs:List (List UInt8)),Dw c->0<xs.length->xs.length<=1000000->JA R [.sl 1 1 xs.length (strs xs)] c (fun x:List UInt8=>x∈xs) (fun x=>Sb x)
variable (D:Dn)
theorem AKH (hB:CB (D 478)):AGp (Body D Awy):=by
 intro c xs hc h0 hl
 refine EJ (fun Q hQ=> ?_)
 simp -implicitDefEqProofs
 obtain⟨x,c1,hx,hc1,px⟩:=hB c xs.length hc (by omega)
 simp -implicitDefEqProofs [AL]at px
 refine Aa (px) ?_
 obtain⟨n,rfl⟩:∃n:Nat,x=n:=⟨x.toNat,by omega⟩
 have hn:n<xs.length:=by have:=hx.2.2 (by omega);omega
 simp -implicitDefEqProofs [hn,Cu,Ab]
 exact hQ _ c1 (List.getElem_mem hn) hc1
def AFC:List (List UInt8):=[[119,111,114,108,100,32,52,32,50,53,32,49,48,48],[119,111,114,108,100,32,54,32,53,48,32,49,48,48],[119,111,114,108,100,32,50,32,49,48,48],[119,111,114,108,100,32,48,32,49,48,48],[119,111,114,108,100,32,51,32,53,48],[119,111,114,108,100,32,55,32,49,48,48],[100,105,97,108,32,48],[100,105,97,108,32,49],[100,105,97,108,32,50],[100,105,97,108,32,57],[115,116,97,114,116],[115,116,97,103,101],[114,101,116,105,114,101,32,49],[114,101,116,105,114,101,32,50],[114,101,116,105,114,101,32,51],[114,101,118,105,118,101,32,49],[114,101,118,105,118,101,32,57],[99,108,101,97,114,32,49],[99,108,101,97,114,32,50],[116,105,99,107,32,49],[116,105,99,107,32,49,48,49],[108,105,109,105,116,32,48,32,49],[108,105,109,105,116,32,48,32,49,48],[115,116,114,105,112,32,48,32,52,48],[97,108,108],[101,110,100,32,48],[101,110,100,32,57],[108,97,115,116],[98,101,115,116,32,48],[98,101,115,116,32,49],[104,97,115,32,51],[115,116,114,97,110,100,101,100,32,49],[115,116,114,97,110,100,101,100,32,50],[114,101,112,111,114,116,32,49],[114,101,112,111,114,116,32,50],[115,105,103,110,97,108],[104,97,114,100],[99,111,117,110,116,115],[104,117,114,116],[115,104,111,119],[97,117,100,105,116],[],[119,104,97,116],[119,111,114,108,100],[100,105,97,108],[100,105,97,108,32,120],[115,116,97,114,116,32,49],[108,105,109,105,116,32,48],[98,111,120,32,49]]
abbrev AyC:Prop:=∀c:QM,Dw c->JA R [] c (fun x:List UInt8=>x.length<=20) (fun x=>Sb x)
theorem AGR:∀x,x∈AFC->x.length<=20:=by
 have:AFC.all (fun x=>decide (x.length<=20))=true:=by decide
 intro x hx
 have:=List.all_eq_true.1 this x hx
 simpa using this
theorem AI4 (hS:AGp (D 559)):AyC (Body D Au8):=by
 intro c hc
 refine EJ (fun Q hQ=> ?_)
 simp -implicitDefEqProofs
 obtain⟨x,c1,hx,hc1,px⟩:=hS c AFC hc (by decide) (by decide)
 have hx2:=AGR x hx
 simp -implicitDefEqProofs [AL]at px
 refine Aa (show _ from px) ?_
 simp -implicitDefEqProofs [Cu,Ab]
 exact hQ _ c1 hx2 hc1
abbrev Ats:Prop:=∀bs:List Int,Aei bs->Rp R bs (fun _:Int=>True) (fun n=>I n)
theorem ABh (hN:Qk (D 473)) (hB:CB (D 478)):Ats (Body D AsL):=by
 intro bs hb
 refine MU (fun Q hQ=> ?_)
 simp -implicitDefEqProofs
 obtain⟨c0,hc0,pc0⟩:=hN bs hb.1 hb.2
 simp -implicitDefEqProofs [AL,ints]at pc0
 refine Aa (pc0) ?_
 simp -implicitDefEqProofs
 obtain⟨x,c1,hx,hc1,px⟩:=hB c0 9 hc0 (by omega)
 simp -implicitDefEqProofs [AL,ints]at px
 refine Aa (px) ?_
 simp -implicitDefEqProofs
 exact hQ _ trivial
abbrev Atr:Prop:=∀bs:List Int,Aei bs->Rp R bs (fun p:World×List UInt8=>CI p.1 1/\p.2.length<=20) (fun p=> .tup [.agg (Bu p.1),Sb p.2])
theorem AKB {w:World} (h:Anr w):CI w 1:=⟨.inl h.ok,h.log,by have:=h.sz;omega⟩
theorem AA1 (hN:Qk (D 473)) (hO:Uk (D 474)) (hW:Rt (D 477)) (hL:AyC (D 555)):Atr (Body D AsJ):=by
 intro bs hb
 refine MU (fun Q hQ=> ?_)
 simp -implicitDefEqProofs
 obtain⟨c0,hc0,pc0⟩:=hN bs hb.1 hb.2
 simp -implicitDefEqProofs [AL,ints]at pc0
 refine Aa (pc0) ?_
 simp -implicitDefEqProofs
 obtain⟨w,c1,hw,hc1,pw⟩:=hW c0 hc0
 simp -implicitDefEqProofs [AL,ints]at pw
 refine Aa (pw) ?_
 simp -implicitDefEqProofs
 obtain⟨b,c2,_,hc2,pb⟩:=hO c1 8 hc1 (by omega)
 simp -implicitDefEqProofs [AL,ints]at pb
 refine Aa (pb) ?_
 have hci:=AKB hw
 clear hw pw
 cases b
 ·simp -implicitDefEqProofs
  obtain⟨l,c3,hl,hc3,pl⟩:=hL c2 hc2
  simp -implicitDefEqProofs [AL,ints]at pl
  refine Aa (pl) ?_
  simp -implicitDefEqProofs
  exact hQ (w,l) ⟨hci,hl⟩
 ·simp -implicitDefEqProofs
  obtain⟨l,c3,hl,hc3,pl⟩:=hL c2 hc2
  simp -implicitDefEqProofs [AL,ints]at pl
  refine Aa (pl) ?_
  simp -implicitDefEqProofs
  exact hQ (Wl,l) ⟨AIL AIK (by omega),hl⟩
end Go.Eng.T
namespace Go.Eng.T
open Go.Lib
set_option maxRecDepth 20000
set_option maxHeartbeats 8000000
def As7 (t:List UInt8):List (List UInt8):=if(Go.Eng.As9 10 t []).getLast? =some []then(Go.Eng.As9 10 t []).dropLast else Go.Eng.As9 10 t []
def AII (p:World×List (List UInt8)) (l:List UInt8):World×List (List UInt8):=((AsN p.1 l).1,p.2++ [(AsN p.1 l).2])
def ApE (ls:List (List UInt8)):World×List (List UInt8):=ls.foldl AII (Wl,[])
theorem AyS {ls:List (List UInt8)} {j:Nat} (h:j<ls.length):ApE (ls.take (j+1))=AII (ApE (ls.take j)) ls[j]:=by
 unfold ApE
 rw[<-List.take_append_getElem h,List.foldl_append];rfl
theorem Awi {ls:List (List UInt8)}:∀j,j<=ls.length->(ApE (ls.take j)).2.length=j
 | 0,_=>rfl
 | j+1,h=>by
  rw[AyS (by omega)]
  show((ApE (ls.take j)).2++ [_]).length=_
  rw[List.length_append,Awi j (by omega)];rfl
theorem AFq {ls:List (List UInt8)}:∀j,j<=ls.length->CI (ApE (ls.take j)).1 j
 | 0,_=>AIK
 | j+1,h=>by
  rw[AyS (by omega)]
  exact AIE (AFq j (by omega)) _
def AhK (t:List UInt8):List (List UInt8)×Bool:=if(As7 t).length>60 then([],false)else((ApE (As7 t)).2,true)
theorem AFl (t:List UInt8):(AhK t).1.length<=60:=by
 unfold AhK
 split
 ·simp
 ·have:=Awi (ls:=As7 t) (As7 t).length (Nat.le_refl _)
  rw[List.take_length]at this
  show(ApE (As7 t)).2.length<=60
  omega
abbrev AC4 (R:Rel):Prop:=∀t:List UInt8,t.length<=4194000->R [Sb t] [] (.tup [.sl 0 1 (AhK t).1.length (strs (AhK t).1),B (AhK t).2]) []
theorem AyZ (c:UInt8):∀(l w:List UInt8) (x:List UInt8),x∈Go.Eng.As9 c l w->x.length<=w.length+l.length
 | [],w,x,h=>by
  simp only[Go.Eng.As9,List.mem_singleton]at h
  subst h;simp
 | b::r,w,x,h=>by
  rw[Go.Eng.As9]at h
  split at h
  ·rcases List.mem_cons.1 h with rfl | h
   ·simp
   ·have:=AyZ c r [] x h
    simp at this⊢;omega
  ·have:=AyZ c r (w++ [b]) x h
   simp at this⊢;omega
theorem AJC {t:List UInt8} {x:List UInt8} (h:x∈As7 t):x.length<=t.length:=by
 unfold As7 at h
 split at h
 ·have:=AyZ 10 t [] x (List.dropLast_subset _ h);simpa using this
 ·have:=AyZ 10 t [] x h;simpa using this
end Go.Eng.T
namespace Go.Eng.T
open Go.Lib
set_option maxRecDepth 20000
set_option maxHeartbeats 2000000
theorem AIU (n:Int):itoa n≠ []:=by
 unfold itoa
 split
 ·simp
 ·intro h
  have h2:=congrArg List.length h
  rw[decDigits_length]at h2
  by_cases h3:n.toNat<10
  ·rw[nDigits_small h3]at h2;simp at h2
  ·rw[nDigits_big h3]at h2;simp at h2
theorem AuT (xs:List Int):fmtList xs≠ []:=by
 unfold fmtList
 split
 ·simp
 ·rename_i h
  cases xs with
  | nil=>exact absurd rfl h
  | cons x r=>
   intro h2
   unfold Hf at h2
   rw[List.map_cons,join_cons]at h2
   exact AIU x (List.append_eq_nil_iff.1 h2).1
theorem AG8 (w:World):VE w≠ []:=by
 unfold VE
 simp
theorem AFr (d:BP):F8 d≠ []:=by
 unfold F8
 simp
theorem AI1 (e:Ai):OI e≠ []:=by
 unfold OI
 simp
theorem AK0 (w:World):AAX (LB w)≠ []:=by
 have h:LB w=0∨LB w=1∨LB w=2:=by
  unfold LB J6
  repeat' split
  all_goals simp
 rcases h with h | h | h<;>rw[h]<;>decide
theorem AKQ (w:World) (word:List UInt8):(AsK w word).getD Atb≠ []:=by
 unfold AsK
 split
 ·unfold Ayy
  split
  ·exact AFr _
  ·decide
 split
 ·exact AK0 w
 split
 ·exact AuT _
 split
 ·exact AuT _
 split
 ·exact AuT _
 split
 ·exact AG8 w
 split
 ·show(if bl (Atx w)=[]then wOk else bl (Atx w))≠ []
  split
  ·decide
  ·assumption
 ·decide
theorem AK3 (w:World) (word:List UInt8) (n:Int):(At3 w word n).getD Atb≠ []:=by
 unfold At3
 split
 ·show(if NJ n 0 ((w.ends.length:Int)-1)then(match w.ends[n.toNat]? with | some e=>OI e | none=>wNo)else wNo)≠ []
  split
  ·split
   ·exact AI1 _
   ·decide
  ·decide
 split
 ·exact AIU _
 split
 ·exact AuT _
 split
 ·exact AuT _
 split
 ·exact AuT _
 ·decide
theorem AJb (w:World) (l:List UInt8):(AsN w l).2≠ []/\((AsN w l).2=wNo∨(AsN w l).2=Atb->(AsN w l).1=w):=by
 have key:∀a:List UInt8,a≠ []->((w,a):World×List UInt8).2≠ []/\(((w,a):World×List UInt8).2=wNo∨((w,a):World×List UInt8).2=Atb->((w,a):World×List UInt8).1=w):=fun a h=>⟨h,fun _=>rfl⟩
 have okk:∀x:World,((x,wOk):World×List UInt8).2≠ []/\(((x,wOk):World×List UInt8).2=wNo∨((x,wOk):World×List UInt8).2=Atb->((x,wOk):World×List UInt8).1=w):=fun x=>⟨(by decide:wOk≠ []),fun h=>absurd h (by decide:¬(wOk=wNo∨wOk=Atb))⟩
 unfold AsN
 split
 ·exact key _ (by decide)
 split
 ·exact key _ (by decide)
 split
 ·unfold Ax7
  split
  ·split
   ·exact okk _
   ·exact key _ (by decide)
  split
  ·exact okk _
  split
  ·rename_i word r _ _ _ _ _
   by_cases hd:(AA w (Ark word (numsOf r))).2=true
   ·rw[if_pos hd];exact okk _
   ·rw[if_neg hd,AJ1 (by simpa using hd)];exact key _ (by decide)
  split
  ·exact key _ (AKQ _ _)
  split
  ·exact key _ (AK3 _ _ _)
  ·exact key _ (by decide)
 ·exact key _ (by decide)
theorem Aty {w:World} {word:List UInt8} {r:List (List UInt8)} {l:List UInt8} (hw:Awt l=word::r) (h1:word≠ [119,111,114,108,100]) (h2:word≠ [97,108,108]) (h3:word≠ [108,105,109,105,116]) (h4:word≠ [115,116,114,105,112]) (h5:kindOf word=0):
 (AsN w l).1=w:=by
 unfold AsN
 split
 ·rfl
 rw[hw]
 dsimp only
 split
 ·unfold Ax7
  rw[if_neg (fun h=>h1 h.1),if_neg (fun h=>h2 h.1)]
  have he:Ark word (numsOf r)=⟨0,0,AsO⟩:=by
   rw[AC3 (fun h=>h3 h.1) (fun h=>h4 h.1),h5]
   rfl
  rw[he,if_neg (by decide)]
  split
  ·rfl
  split
  ·rfl
  ·rfl
 ·rfl
def asks:List (List UInt8):=[[115,104,111,119],[97,117,100,105,116],[99,111,117,110,116,115],[98,101,115,116,32,48],[104,97,115,32,51],[108,97,115,116],[104,97,114,100],[115,116,114,97,110,100,101,100,32,49],[114,101,112,111,114,116,32,49],[]]
theorem AI5 {w:World} {l:List UInt8} (h:l∈asks):(AsN w l).1=w:=by
 unfold asks at h
 simp only[List.mem_cons,List.not_mem_nil,or_false]at h
 rcases h with rfl | rfl | rfl | rfl | rfl | rfl | rfl | rfl | rfl | rfl
 ·exact Aty (word:=[115,104,111,119]) (r:=[]) (by decide) (by decide) (by decide) (by decide) (by decide) (by decide)
 ·exact Aty (word:=[97,117,100,105,116]) (r:=[]) (by decide) (by decide) (by decide) (by decide) (by decide) (by decide)
 ·exact Aty (word:=[99,111,117,110,116,115]) (r:=[]) (by decide) (by decide) (by decide) (by decide) (by decide) (by decide)
 ·exact Aty (word:=[98,101,115,116]) (r:=[[48]]) (by decide) (by decide) (by decide) (by decide) (by decide) (by decide)
 ·exact Aty (word:=[104,97,115]) (r:=[[51]]) (by decide) (by decide) (by decide) (by decide) (by decide) (by decide)
 ·exact Aty (word:=[108,97,115,116]) (r:=[]) (by decide) (by decide) (by decide) (by decide) (by decide) (by decide)
 ·exact Aty (word:=[104,97,114,100]) (r:=[]) (by decide) (by decide) (by decide) (by decide) (by decide) (by decide)
 ·exact Aty (word:=[115,116,114,97,110,100,101,100]) (r:=[[49]]) (by decide) (by decide) (by decide) (by decide) (by decide) (by decide)
 ·exact Aty (word:=[114,101,112,111,114,116]) (r:=[[49]]) (by decide) (by decide) (by decide) (by decide) (by decide) (by decide)
 ·rfl
theorem AJP:∀l,l∈asks->l.length<=20:=by
 have:asks.all (fun x=>decide (x.length<=20))=true:=by decide
 intro x hx
 have:=List.all_eq_true.1 this x hx
 simpa using this
theorem ADI (n:Int):∀e,e∈AqH n->Au e=true:=by
 intro e he
 unfold AqH at he
 split at he
 ·rename_i h
  obtain⟨i,hi,rfl⟩:=List.mem_map.1 he
  have hi:=List.mem_range.1 hi
  have h6:i=0∨i=1∨i=2∨i=3∨i=4∨i=5:=by omega
  rcases h6 with rfl | rfl | rfl | rfl | rfl | rfl<;>decide
 ·cases he
def AwO (t:List UInt8):Prop:=t=[]∨t.getLast? =some 10
theorem AB3:∀(l w:List UInt8),(Go.Eng.As9 10 l w).length=l.count 10+1
 | [],w=>rfl
 | b::r,w=>by
  rw[Go.Eng.As9]
  by_cases h:b=10
  ·rw[if_pos h,List.length_cons,AB3 r [],h,List.count_cons_self]
  ·rw[if_neg h,AB3 r _,List.count_cons_of_ne h]
theorem AD6:∀(l w:List UInt8),(l≠ []->l.getLast? =some 10)->(l=[]->w=[])->(Go.Eng.As9 10 l w).getLast? =some []
 | [],w,_,h=>by rw[h rfl];rfl
 | b::r,w,h,_=>by
  have h:=h (by simp)
  rw[Go.Eng.As9]
  by_cases hr:r=[]
  ·subst hr
   have hb:b=10:=by simpa using h
   rw[if_pos hb]
   rfl
  ·have hr2:r.getLast? =some 10:=by
    cases r with
    | nil=>exact absurd rfl hr
    | cons c s=>simpa using h
   split
   ·have:=AD6 r [] (fun _=>hr2) (fun e=>rfl)
    have hne:=(Go.Eng.AxE 10 r []).2
    cases hq:Go.Eng.As9 10 r []with
    | nil=>exact absurd hq hne
    | cons p ps=>rw[hq]at this;simpa using this
   ·exact AD6 r _ (fun _=>hr2) (fun e=>absurd e hr)
theorem AGI {t:List UInt8} (h:AwO t):(As7 t).length=t.count 10:=by
 have h1:=AB3 t []
 have h2:=AD6 t [] (fun hne=>by rcases h with h | h;exact absurd h hne;exact h) (fun _=>rfl)
 unfold As7
 rw[if_pos h2,List.length_dropLast,h1];omega
theorem ADC {t:List UInt8} (h:AwO t):((AhK t).2=true/\(AhK t).1.length=t.count 10)∨((AhK t).2=false/\(AhK t).1=[]/\60<t.count 10):=by
 have hc:=AGI h
 unfold AhK
 split
 ·exact .inr ⟨rfl,rfl,by omega⟩
 ·refine .inl ⟨rfl,?_⟩
  have:=Awi (ls:=As7 t) (As7 t).length (Nat.le_refl _)
  rw[List.take_length]at this
  show(ApE (As7 t)).2.length=_
  omega
end Go.Eng.T
