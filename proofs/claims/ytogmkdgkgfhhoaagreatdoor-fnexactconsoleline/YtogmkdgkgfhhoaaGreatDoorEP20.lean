/- Own work: part 20 of the proof of FnExactConsoleLine. -/
import Derived.Test.YtogmkdgkgfhhoaaGreatDoorEEngAL
import Derived.Test.YtogmkdgkgfhhoaaGreatDoorEP12
import Derived.Test.YtogmkdgkgfhhoaaGreatDoorEP13
import Derived.Test.YtogmkdgkgfhhoaaGreatDoorEP14
import Derived.Test.YtogmkdgkgfhhoaaGreatDoorEP15
import Derived.Test.YtogmkdgkgfhhoaaGreatDoorEP16
import Derived.Test.YtogmkdgkgfhhoaaGreatDoorEP17
import Derived.Test.YtogmkdgkgfhhoaaGreatDoorEP18
import Derived.Test.YtogmkdgkgfhhoaaGreatDoorEEngAQ
set_option linter.unusedSimpArgs false
set_option linter.unusedVariables false
namespace Go.Eng.T
set_option maxRecDepth 20000
set_option maxHeartbeats 1000000
structure QM where
 bs:List Int
 i:Nat
 h:Int
def u8s (bs:List Int):List V:=bs.map fun b=> .sc (.int .u8 b)
@[simp high] theorem Asv {bs:List Int} {j:Nat} (h:j<bs.length):(u8s bs)[j]? =some (.sc (.int .u8 bs[j])):=by simp[u8s,h]
@[simp high] theorem Asa (bs:List Int):(u8s bs).length=bs.length:=by simp[u8s]
@[simp] theorem Asw (bs:List Int) (fl:Nat):(u8s bs).map (AO fl)=u8s bs:=by simp[u8s,AO]
set_option maxHeartbeats 1000000
def VP (l:List Int) (b:Int) (m:Nat):Prop:=Up l/\(∀x,x∈l->1<=x/\x<=b)/\l.length<=m
set_option maxHeartbeats 1000000
def X5 (b:EG):Prop:=IL b=true/\b.drops.length<=4/\b.strips.length<=4
def Aha (b:EG):Prop:=b.drops.length<=7/\b.strips.length<=7
def TK (l:List EG) (m:Nat):Prop:=l.length<=m/\∀b,b∈l->X5 b
set_option maxHeartbeats 1000000
def AjF (l:List Int) (m:Nat):Prop:=Up l/\(∀x,x∈l->x∈[1,2,3,40,(200:Int)])/\l.length<=m
structure Aj0 (e:Ai):Prop where
 vers:VP e.versions 6 4
 pos:0<e.versions.length
 tags:AjF e.tags 3
 path:TK e.path 3
 cls:0<=e.cls/\e.cls<=5
structure ArD (e:Ai):Prop where
 vers:e.versions.length<=5
 tags:e.tags.length<=6
 path:e.path.length<=5
 box:∀b,b∈e.path->Aha b
set_option maxHeartbeats 1000000
set_option maxHeartbeats 2000000
def Qz (y:Int):List Int:=El [1] (2+y)
def Ao3 (e:Ai):Prop:=Aj0 e/\1∈e.versions/\∃y:Int,(0<=y/\y<2)/\e.versions=Qz y
abbrev zW:List V:=[.nil 1,.nil 1,I 0,.nil 4,I 0,.nil 1,I 0,B false,I 0,I 0,.nil 5,.nil 8,I 0,I 0,I 0]
structure Aek (w:World):Prop where
 ok:Ap w=true
 sz:Af w<=400
 ends:0<w.ends.length
 eok:∀e,e∈w.ends->Ao3 e
 nolog:w.log=[]
 nostage:w.stage=[]
 few:w.ends.length<=5
 start:w.now=0/\w.hurt=0
 key:w.key=77/\w.reached=0
 ver:w.rollout.version=4∨w.rollout.version=5
set_option maxHeartbeats 2000000
set_option maxHeartbeats 2000000
set_option maxHeartbeats 2000000
def AI3 (p:Nat->Bool):Nat->Nat
 | 0=>0
 | n+1=>AI3 p n+(if p n then 1 else 0)
theorem AF4 (p:Nat->Bool):∀n,AI3 p n<=n
 | 0=>Nat.le_refl 0
 | n+1=>by have:=AF4 p n;simp only[AI3];split<;>omega
structure AqL (w:World):Prop where
 reach:AQ w.server=true/\∀e,e∈w.ends->reach w.server e.versions=true
 tags:FI w.tags=true/\Mj w.key=true
 few:w.ends.length<=6
 ends:∀e,e∈w.ends->Au e=true
 b:FM w=true
 c:Es w=true
set_option maxHeartbeats 2000000
def through (b:EG) (h:Hello):Bool:=IL b&&(Dt h&& !PK b h)&&h.exts.all fun x=>stays b x.tag
theorem AJQ {s l:List Int} (h:¬AJ s l=0):AJ s l∈l/\AQ l=true:=by
 unfold AJ at h⊢
 split at h
 ·rename_i hv
  rw[if_pos hv]
  have h0:0<(common s l).length:=by
   rcases Nat.eq_zero_or_pos (common s l).length with e | e
   ·rw[List.eq_nil_of_length_eq_zero e]at h;exact absurd rfl h
   ·exact e
  have e:=Akj (l:=common s l) ((Ru hv.1).sublist List.filter_sublist) (fun x hx=>by have:=(RF hv.1) x (List.mem_filter.1 hx).1;omega) h0
  rw[e]
  have:=List.getElem_mem (l:=common s l) (n:=(common s l).length-1) (by omega)
  exact⟨by simpa using(List.mem_filter.1 this).2,hv.2⟩
 ·exact absurd rfl h
set_option maxHeartbeats 1000000
def Axb (l:List Int):Bool:=decide (l.length<=10)&&allIn l 0 10000
variable (R:Rel)
abbrev Axm:Prop:=∀l:List Int,l.length<=maxLen->R [.sl 1 1 l.length (ints l)] [] (B (Axb l)) []
variable (D:Dn)
theorem AOo (hI:Vf (D 71)):Axm (Body D ALE):=by
 intro l hl
 unfold maxLen at hl
 simp -implicitDefEqProofs
 refine Ag (fun k s=>∃j,j+k=l.length/\allIn (l.take j) 0 10000=true/\s=⟨[.sl 1 1 l.length (ints l),.undef,I j,.undef,.undef],[]⟩) ?_ (l.length) _ ⟨0,by simp,by simp[allIn],by simp⟩
 intro k s ⟨j,hj,hp,hs⟩
 subst hs
 by_cases hjn:j<l.length
 ·have hw:=Cv (j:=j) (by omega)
  simp -implicitDefEqProofs [hjn]
  refine Aa (hI _ _ _) ?_
  by_cases h1:M6 l[j] 0 10000
  ·simp -implicitDefEqProofs [h1]
   exact⟨k-1,by omega,j+1,by omega,by rw[LU hjn,hp];simp[h1],by simp[hw]⟩
  ·have e:Axb l=false:=by unfold Axb;rw[Ahh hjn h1];simp
   simp -implicitDefEqProofs [h1,e]
 ·have e:Axb l=decide (l.length<=10):=by unfold Axb;rw[Wt (by omega) hp];simp
  by_cases h5:l.length<=10
  ·have h5':(l.length:Int)<=10:=by omega
   simp -implicitDefEqProofs [hjn,e,h5,h5']
  ·have h5':¬(l.length:Int)<=10:=by omega
   simp -implicitDefEqProofs [hjn,e,h5,h5']
theorem AGc (hN:AsS (D 233)):Axm (Body D Avx):=by
 intro l hl
 by_cases h5:l.length<=10
 ·have h5':(l.length:Int)<=10:=by omega
  simp -implicitDefEqProofs [h5']
  refine Aa (hN _ _ _ hl) ?_
  simp -implicitDefEqProofs [Axb,h5]
 ·have h5':¬(l.length:Int)<=10:=by omega
  simp -implicitDefEqProofs [h5',Axb,h5]
def AAw (l:List Int) (n:Int):Bool:=Axb l&&decide (M6 n 0 10000)
abbrev Az5:Prop:=∀(l:List Int) (n:Int),l.length<=maxLen->R [.sl 1 1 l.length (ints l),I n] [] (B (AAw l n)) []
theorem AJv (hA:Axm (D 275)) (hI:Vf (D 114)):Az5 (Body D Aw1):=by
 intro l n hl
 simp -implicitDefEqProofs
 refine Aa (hA l hl) ?_
 by_cases h1:Axb l=true
 rotate_left
 ·simp -implicitDefEqProofs [h1,AAw]
 simp -implicitDefEqProofs [h1]
 refine Aa (hI _ _ _) ?_
 simp -implicitDefEqProofs [h1,AAw]
def Ax6 (n x:Int):Int:=if x<n then 0 else x
def Atw (l:List Int) (n:Int):List Int:=if AAw l n=true then l.map (Ax6 n)else []
abbrev AxN:Prop:=∀(l:List Int) (n:Int),l.length<=4194304->R [.sl 1 1 l.length (ints l),I n] [] (.sl 0 1 (Atw l n).length (ints (Atw l n))) []
theorem AJc {l:List Int} {n:Int} {j:Nat} (h:j<l.length):(l.take (j+1)).map (Ax6 n)=(l.take j).map (Ax6 n)++ [Ax6 n l[j]]:=by
 have e:l.take (j+1)=l.take j++ [l[j]]:=by simp
 rw[e,List.map_append];rfl
theorem AOr (hA:Axm (D 225)) (hI:Vf (D 71)):AxN (Body D ALi):=by
 intro l n hl
 have hl':l.length<=maxLen:=by unfold maxLen;omega
 by_cases hc:AAw l n=true
 rotate_left
 ·have e:Atw l n=[]:=by unfold Atw;rw[if_neg hc]
  rw[e]
  simp -implicitDefEqProofs
  refine Ag (fun k s=>s=⟨[.sl 1 1 l.length (ints l),I n,.undef,.arr 3,I 0,.undef,.undef,.undef],[.free,.free,.free,.arr 1 0 0 (ints [])]⟩) ?_ 0 _ (by simp)
  intro k s hs
  subst hs
  by_cases h0:0<l.length
  rotate_left
  ·simp -implicitDefEqProofs [h0]
  simp -implicitDefEqProofs [h0]
  refine Aa (hA l hl') ?_
  by_cases h1:Axb l=true
  rotate_left
  ·simp -implicitDefEqProofs [h1]
  have h2:¬M6 n 0 10000:=by intro h2;exact hc (by unfold AAw;simp[h1,h2])
  simp -implicitDefEqProofs [h1]
  refine Aa (hI _ _ _) ?_
  simp -implicitDefEqProofs [h2]
 have e:Atw l n=l.map (Ax6 n):=by unfold Atw;rw[if_pos hc]
 rw[e]
 unfold AAw at hc
 simp only[Bool.and_eq_true,decide_eq_true_eq]at hc
 obtain⟨h1,h2⟩:=hc
 simp -implicitDefEqProofs
 refine Ag (fun k s=>∃j o1 o2,j+k=l.length/\s=⟨[.sl 1 1 l.length (ints l),I n,.undef,.arr 3,I j,.undef,.undef,.undef],[.free,o1,o2,.arr 1 0 j (ints ((l.take j).map (Ax6 n)))]⟩) ?_ (l.length) _ ⟨0,.free,.free,by simp,by simp⟩
 intro k s ⟨j,o1,o2,hj,hs⟩
 subst hs
 by_cases hjn:j<l.length
 ·have hw:=Cv (j:=j) (by omega)
  simp -implicitDefEqProofs [hjn]
  refine Aa (hA l hl') ?_
  simp -implicitDefEqProofs [h1]
  refine Aa (hI _ _ _) ?_
  have hst:=AJc (n:=n) hjn
  rw[List.map_take,List.map_take]at hst
  have hbd:(j+1)*8<=1099511627776:=by omega
  by_cases h3:l[j]<n
  ·have e3:Ax6 n l[j]=0:=by unfold Ax6;rw[if_pos h3]
   simp -implicitDefEqProofs [hjn,h2,h3,hbd]
   exact⟨k-1,by omega,j+1,by omega,by simp[hw],rfl,by rw[hst,e3]⟩
  ·have e3:Ax6 n l[j]=l[j]:=by unfold Ax6;rw[if_neg h3]
   simp -implicitDefEqProofs [hjn,h2,h3,hbd]
   exact⟨k-1,by omega,j+1,by omega,by simp[hw],rfl,by rw[hst,e3]⟩
 ·obtain rfl:j=l.length:=by omega
  simp -implicitDefEqProofs
theorem AFE (hC:Az5 (D 243)):AxN (Body D AvL):=by
 intro l n hl
 have hl':l.length<=maxLen:=by unfold maxLen;omega
 simp -implicitDefEqProofs
 refine Aa (hC l n hl') ?_
 by_cases hc:AAw l n=true
 rotate_left
 ·have e:Atw l n=[]:=by unfold Atw;rw[if_neg hc]
  rw[e]
  simp -implicitDefEqProofs [hc]
 have e:Atw l n=l.map (Ax6 n):=by unfold Atw;rw[if_pos hc]
 rw[e]
 simp -implicitDefEqProofs [hc]
 refine Ag (fun k s=>∃j o1 o2,j+k=l.length/\s=⟨[.undef,I n,.undef,.arr 3,.undef,.undef,.sl 1 1 l.length (ints l),I l.length,I j,.undef,.undef],[.free,o1,o2,.arr 1 0 j (ints ((l.take j).map (Ax6 n)))]⟩) ?_ (l.length) _ ⟨0,.free,.free,by simp,by simp⟩
 intro k s ⟨j,o1,o2,hj,hs⟩
 subst hs
 by_cases hjn:j<l.length
 ·have hw:=Cv (j:=j) (by omega)
  have hst:=AJc (n:=n) hjn
  rw[List.map_take,List.map_take]at hst
  have hbd:(j+1)*8<=1099511627776:=by omega
  by_cases h3:l[j]<n
  ·have e3:Ax6 n l[j]=0:=by unfold Ax6;rw[if_pos h3]
   simp -implicitDefEqProofs [hjn,h3,hbd]
   exact⟨k-1,by omega,j+1,by omega,by simp[hw],rfl,by rw[hst,e3]⟩
  ·have e3:Ax6 n l[j]=l[j]:=by unfold Ax6;rw[if_neg h3]
   simp -implicitDefEqProofs [hjn,h3,hbd]
   exact⟨k-1,by omega,j+1,by omega,by simp[hw],rfl,by rw[hst,e3]⟩
 ·obtain rfl:j=l.length:=by omega
  simp -implicitDefEqProofs
def AFs (w:World) (v:Nat) (i:Nat):Bool:=decide (AsR w i=(v:Int))
def ABm (w:World) (v j:Nat):Int:=(AI3 (AFs w v) j:Nat)
def ABd (w:World) (j:Nat):List Int:=(List.range 10).map fun v=>ABm w v j
def Ars (w:World):List Int:=ABd w w.ends.length
theorem Axi (w:World) (j:Nat):(ABd w j).length=10:=by simp[ABd]
theorem AJK {w:World} {j b:Nat} (h:b<(ABd w j).length):(ABd w j)[b]=ABm w b j:=by simp[ABd]
abbrev Atq:Prop:=∀w:World,Af w<=4194304->R [arg (Bu w)] [] (.sl 0 1 (Ars w).length (ints (Ars w))) []
theorem AJA (w:World) (v j:Nat):ABm w v (j+1)=ABm w v j+(if AsR w j=(v:Int)then 1 else 0):=by
 unfold ABm
 simp only[AI3,AFs]
 by_cases h:AsR w j=(v:Int)<;>simp[h]
theorem AKD (w:World) (v j:Nat):0<=ABm w v j/\ABm w v j<=j:=by
 have:=AF4 (AFs w v) j
 unfold ABm;omega
theorem APs {α:Type} (f:Nat->α) (v:Nat):(List.range (v+1)).map f=(List.range v).map f++ [f v]:=by rw[List.range_succ,List.map_append];rfl
theorem ANg (hB:Ayv (D 92)):Atq (Body D AFH):=by
 intro w hsz
 have hl:=FE hsz
 have hres:Ars w=(List.range 10).map fun v=>ABm w v w.ends.length:=rfl
 have hlen:(Ars w).length=10:=Axi w _
 rw[hlen,hres]
 simp -implicitDefEqProofs
 refine Ag (fun k s=>∃j o2 o3,j+k=10/\s=⟨[.undef,.ptr 0 0,.undef,.arr 4,I j,.undef,.undef,.undef,.undef,.undef],[.var ((Bu w).map (AO 1)),.free,o2,o3,.arr 1 0 j (ints ((List.range j).map fun v=>ABm w v w.ends.length))]⟩) ?_ (10) _ ⟨0,.free,.free,by simp,by simp⟩
 intro k s ⟨j,o2,o3,hj,hs⟩
 subst hs
 by_cases hjn:j<10
 rotate_left
 ·obtain rfl:j=10:=by omega
  simp -implicitDefEqProofs
 have hw:=Cv (j:=j) (by omega)
 have h9:(j:Int)<=9:=by omega
 have hst:=APs (fun v=>ABm w v w.ends.length) j
 have hbd:(j+1)*8<=1099511627776:=by omega
 simp -implicitDefEqProofs [h9]
 refine Ag (fun q s=>∃i,i+q=w.ends.length/\s=⟨[.undef,.ptr 0 0,.undef,.arr 4,I j,I (ABm w j i),I i,.undef,.undef,.undef],[.var ((Bu w).map (AO 1)),.free,o2,o3,.arr 1 0 j (ints ((List.range j).map fun v=>ABm w v w.ends.length))]⟩) ?_ w.ends.length _ ⟨0,by simp,by simp[ABm,AI3]⟩
 intro q s ⟨i,hi,hs⟩
 subst hs
 by_cases hin:i<w.ends.length
 ·have hwi:IntKind.i64.wrap ((i:Int)+1)=(i+1:Nat):=by rw[Ad (by omega) (by omega)];simp
  have hc:=AKD w j i
  have hwc:IntKind.i64.wrap (ABm w j i+1)=ABm w j i+1:=Ad (by omega) (by omega)
  have hs2:=AJA w j i
  simp -implicitDefEqProofs [hin]
  refine Aa (hB w i hsz) ?_
  by_cases hb:AsR w i=(j:Int)
  ·rw[if_pos hb]at hs2
   simp -implicitDefEqProofs [hb]
   exact⟨q-1,by omega,i+1,by omega,by rw[hwc,hs2],by simp[hwi]⟩
  ·rw[if_neg hb]at hs2
   simp -implicitDefEqProofs [hb]
   exact⟨q-1,by omega,i+1,by omega,by rw[hs2];simp,by simp[hwi]⟩
 ·obtain rfl:i=w.ends.length:=by omega
  simp -implicitDefEqProofs [hbd]
  exact⟨k-1,by omega,j+1,by omega,by simp[hw],rfl,by rw[hst]⟩
theorem AHQ (a b:List Int):0<=AJ a b/\AJ a b<=9:=by
 unfold AJ
 split
 ·rename_i h
  by_cases h3:common a b=[]
  ·rw[h3];simp[Sw]
  ·have h4:0<(common a b).length:=List.length_pos_iff.2 h3
   have h5:=Akj (l:=common a b) ((Ru h.1).filter _) (fun x hx=>by have:=RF h.1 x (List.mem_filter.1 hx).1;omega) h4
   rw[h5]
   have:=RF h.1 _ (List.mem_filter.1 (List.getElem_mem (l:=common a b) (n:=(common a b).length-1) (by omega))).1
   omega
 ·simp
theorem AEk (w:World) (i:Int):0<=AsR w i/\AsR w i<=9:=by
 unfold AsR
 split
 ·split
  ·unfold Axs
   split
   ·exact AHQ _ _
   ·simp
  ·simp
 ·simp
theorem AH5 (w:World) (j b:Nat) (h:AsR w j=(b:Int)):(ABd w j).set b (ABm w b j+1)=ABd w (j+1):=by
 unfold ABd
 apply List.ext_getElem
 ·simp
 ·intro n h1 h2
  simp only[List.length_map,List.length_range]at h2
  rw[List.getElem_set]
  simp only[List.getElem_map,List.getElem_range,AJA,h]
  by_cases hn:b=n
  ·subst hn;simp
  ·rw[if_neg hn,if_neg (by omega)];simp
theorem ABE (hB:Ayv (D 119)):Atq (Body D AtB):=by
 intro w hsz
 have hl:=FE hsz
 have hres:Ars w=ABd w w.ends.length:=rfl
 rw[hres,Axi]
 simp -implicitDefEqProofs
 refine Ag (fun k s=>∃j,j+k=w.ends.length/\s=⟨[.undef,.ptr 0 0,.undef,.arr 1,.undef,I w.ends.length,I j,.undef],[.var ((Bu w).map (AO 1)),.arr 1 0 10 (ints (ABd w j))]⟩) ?_ (w.ends.length) _ ⟨0,by simp,by simp[ABd,ABm,AI3,List.range,List.range.loop,ints]⟩
 intro k s ⟨j,hj,hs⟩
 subst hs
 by_cases hjn:j<w.ends.length
 ·have hw:=Cv (j:=j) (by omega)
  simp -implicitDefEqProofs [hjn]
  refine Aa (hB w j hsz) ?_
  have hr:=AEk w j
  obtain⟨b,hb⟩:∃b:Nat,AsR w j=(b:Int):=⟨(AsR w j).toNat,by omega⟩
  have hb9:b<10:=by omega
  have hb9i:(b:Int)<10:=by omega
  have hb9':b<(ABd w j).length:=by rw[Axi];exact hb9
  have hset:=AH5 w j b hb
  have hc:=AKD w b j
  have hwc:IntKind.i64.wrap (ABm w b j+1)=ABm w b j+1:=Ad (by omega) (by omega)
  rw[hb]
  simp -implicitDefEqProofs [Axi,hb9,hb9i,hb9',AJK hb9',hwc]
  exact⟨k-1,by omega,j+1,by omega,by simp[hw],by rw[hset]⟩
 ·obtain rfl:j=w.ends.length:=by omega
  simp -implicitDefEqProofs
def Atf (w:World) (n:Int):List Int:=Atw (Ars w) n
abbrev AxK:Prop:=∀(w:World) (n:Int),Af w<=4194304->R [arg (Bu w),I n] [] (.sl 0 1 (Atf w n).length (ints (Atf w n))) []
theorem AOx (hV:Atq (D 86)) (hH:AxN (D 169)):AxK (Body D ALm):=by
 intro w n hsz
 simp -implicitDefEqProofs
 refine Aa (hV w hsz) ?_
 simp -implicitDefEqProofs
 refine Aa (hH (Ars w) n (by rw[Ars,Axi];omega)) ?_
 simp -implicitDefEqProofs [Atf]
theorem AFM (hV:Atq (D 130)) (hH:AxN (D 191)):AxK (Body D Avo):=by
 intro w n hsz
 simp -implicitDefEqProofs
 refine Aa (hV w hsz) ?_
 simp -implicitDefEqProofs
 refine Aa (hH (Ars w) n (by rw[Ars,Axi];omega)) ?_
 simp -implicitDefEqProofs [Atf]
set_option maxHeartbeats 1000000
def At0 (j:Nat):Int:=10+16*(j:Int)
def AAh:List Int:=(List.range 16).map At0
theorem AJt (j:Nat):(List.range (j+1)).map At0=(List.range j).map At0++ [At0 j]:=by rw[List.range_succ,List.map_append];rfl
abbrev Ayr:Prop:=R [] [] (.sl 0 1 16 (ints AAh)) []
theorem ADe:Ayr (Body D AtS):=by
 have hres:AAh=(List.range 16).map At0:=rfl
 unfold Ayr
 rw[hres]
 simp -implicitDefEqProofs
 refine Ag (fun k s=>∃j o1 o2,j+k=16/\s=⟨[.undef,.arr 3,I (At0 j),.undef],[.free,o1,o2,.arr 1 0 j (ints ((List.range j).map At0))]⟩) ?_ (16) _ ⟨0,.free,.free,by simp,by simp[At0]⟩
 intro k s ⟨j,o1,o2,hj,hs⟩
 subst hs
 by_cases hjn:j<16
 ·have hst:=AJt j
  have hlt:At0 j<256:=by unfold At0;omega
  have hw:IntKind.i64.wrap (At0 j+16)=At0 (j+1):=by unfold At0;rw[Ad (by omega) (by omega)];omega
  have hbd:(j+1)*8<=1099511627776:=by omega
  simp -implicitDefEqProofs [hlt,hbd]
  exact⟨k-1,by omega,j+1,by omega,by simp[hw],rfl,by rw[hst]⟩
 ·obtain rfl:j=16:=by omega
  have hlt:¬At0 16<256:=by unfold At0;omega
  simp -implicitDefEqProofs [hlt]
def AKG (b:EG) (t:Int):Bool:= !(BV b ⟨[1],[⟨t,[]⟩]⟩).2||decide ((BV b ⟨[1],[⟨t,[]⟩]⟩).1.exts=[])
def refuses (b:EG):Bool:=IL b&&AAh.any (AKG b)
abbrev AA9:Prop:=∀b:EG,Kh b->R [arg (DT b)] [] (B (refuses b)) []
abbrev AyL:Prop:=∀(t:Int) (b:EG),Kh b->R [I t,.rptr 1 (DT b) 0] [] (B (AKG b t)) []
theorem ALb (t:Int):hB ⟨[1],[⟨t,[]⟩]⟩:=⟨by simp,by simp,by simp⟩
theorem AIj (hP:Vm (D 294)):AyL (Body D Ati):=by
 intro t b hb
 have hq:AKG b t=(!(BV b ⟨[1],[⟨t,[]⟩]⟩).2||decide ((BV b ⟨[1],[⟨t,[]⟩]⟩).1.exts=[])):=rfl
 rw[hq]
 simp -implicitDefEqProofs
 refine Aa (hP b ⟨[1],[⟨t,[]⟩]⟩ hb (ALb t)) ?_
 generalize BV b ⟨[1],[⟨t,[]⟩]⟩=r
 by_cases h1:r.2=true
 ·by_cases h2:r.1.exts=[]
  ·simp -implicitDefEqProofs [h1,h2,Aqs]
  ·simp -implicitDefEqProofs [h1,h2,Aqs]
 ·simp -implicitDefEqProofs [h1]
theorem AHK (hX:XD (D 183)) (hT:Ayr (D 276)) (h1':AyL (D 277)) (hC:Ate D (D 267)):AA9 (Body D AtA):=by
 intro b hb
 simp -implicitDefEqProofs
 refine Aa (hX b hb) ?_
 by_cases h1:IL b=true
 rotate_left
 ·simp -implicitDefEqProofs [h1,refuses]
 simp -implicitDefEqProofs [h1]
 refine Aa (hT) ?_
 simp -implicitDefEqProofs
 refine Aa (hC AAh 277 _ (AKG b) (by unfold maxLen;simp[AAh]) (AyM Api) (fun t=>h1' t b hb)) ?_
 simp -implicitDefEqProofs [refuses,h1]
abbrev ANC:Prop:=∀t:Int,R [I t] [] (.sl 0 2 1 [I t,.sl 0 1 0 []]) []
theorem APq:ANC (Body D AMk):=by
 intro t
 simp -implicitDefEqProofs
theorem AOQ (hX:XD (D 152)) (hH:JZ (D 256)) (hO:ANC (D 257)) (hP:Vm (D 258)):AA9 (Body D AFO):=by
 intro b hb
 by_cases h1:IL b=true
 rotate_left
 ·simp -implicitDefEqProofs
  refine Ag (fun k s=>s=⟨[.undef,.ptr 0 0,.undef,I 10,.undef,.undef,.undef,.undef,.undef],[.var ((DT b).map (AO 1)),.free,.free,.free,.free,.free,.free,.free,.free]⟩) ?_ 0 _ (by simp)
  intro k s hs
  subst hs
  simp -implicitDefEqProofs
  refine Aa (hX b hb) ?_
  simp -implicitDefEqProofs [h1,refuses]
 have hres:refuses b=((List.range 16).map At0).any (AKG b):=by unfold refuses;rw[h1];rfl
 simp -implicitDefEqProofs
 refine Ag (fun k s=>∃j o1 o2 o3 o4 o5 o6 o7 o8,j+k=16/\((List.range j).map At0).any (AKG b)=false/\s=⟨[.undef,.ptr 0 0,.undef,I (At0 j),.undef,.undef,.undef,.undef,.undef],[.var ((DT b).map (AO 1)),o1,o2,o3,o4,o5,o6,o7,o8]⟩) ?_ (16) _ ⟨0,.free,.free,.free,.free,.free,.free,.free,.free,by simp,by simp,by simp[At0]⟩
 intro k s ⟨j,o1,o2,o3,o4,o5,o6,o7,o8,hj,hp,hs⟩
 subst hs
 by_cases hjn:j<16
 ·have hlt:At0 j<256:=by unfold At0;omega
  have hw:IntKind.i64.wrap (At0 j+16)=At0 (j+1):=by unfold At0;rw[Ad (by omega) (by omega)];omega
  have hq:AKG b (At0 j)=(!(BV b ⟨[1],[⟨At0 j,[]⟩]⟩).2||decide ((BV b ⟨[1],[⟨At0 j,[]⟩]⟩).1.exts=[])):=rfl
  have hmem:At0 j∈(List.range 16).map At0:=List.mem_map.2 ⟨j,List.mem_range.2 hjn,rfl⟩
  have hyes:AKG b (At0 j)=true->refuses b=true:=fun h=>by rw[hres];exact List.any_eq_true.2 ⟨_,hmem,h⟩
  have hst:((List.range (j+1)).map At0).any (AKG b)=AKG b (At0 j):=by rw[AJt,List.any_append,hp];simp
  simp -implicitDefEqProofs [hlt]
  refine Aa (hX b hb) ?_
  simp -implicitDefEqProofs [h1]
  refine Aa (hH [1] (by simp)) ?_
  simp -implicitDefEqProofs
  refine Aa (hO (At0 j)) ?_
  simp -implicitDefEqProofs
  refine Aa (hP b ⟨[1],[⟨At0 j,[]⟩]⟩ hb (ALb _)) ?_
  generalize BV b ⟨[1],[⟨At0 j,[]⟩]⟩=r at hq
  by_cases g1:r.2=true
  rotate_left
  ·have e:=hyes (by rw[hq];simp[g1])
   simp -implicitDefEqProofs [g1,e]
  by_cases g2:r.1.exts=[]
  ·have e:=hyes (by rw[hq];simp[g2])
   simp -implicitDefEqProofs [g1,g2,Aqs,e]
  ·simp -implicitDefEqProofs [g1,g2,Aqs]
   exact⟨k-1,by omega,j+1,by omega,by simpa using hst.trans (show AKG b (At0 j)=false by rw[hq];simp[g1,g2]),by simp[hw]⟩
 ·obtain rfl:j=16:=by omega
  have hlt:¬At0 16<256:=by unfold At0;omega
  have e:refuses b=false:=by rw[hres,hp]
  simp -implicitDefEqProofs [hlt,e]
def At8 (path:List EG):List Int:=Le refuses path 0
abbrev Axz:Prop:=∀path:List EG,lnS Kh path->path.length<=4194304->R [.sl 1 4 path.length (path.flatMap DT)] [] (.sl 0 1 (At8 path).length (ints (At8 path))) []
theorem AOt (hR:AA9 (D 218)):Axz (Body D AE8):=by
 intro path hb hl
 have hres:At8 path=Le refuses path 0:=rfl
 rw[hres]
 simp -implicitDefEqProofs
 refine Ag (fun k s=>∃j o1 o2,j+k=path.length/\s=⟨[.sl 1 4 path.length (path.flatMap DT),.undef,.arr 3,I j,.undef,.undef],[.free,o1,o2,.arr 1 0 (Le refuses (path.take j) 0).length (ints (Le refuses (path.take j) 0))]⟩) ?_ (path.length) _ ⟨0,.free,.free,by simp,by simp[Le]⟩
 intro k s ⟨j,o1,o2,hj,hs⟩
 subst hs
 by_cases hjn:j<path.length
 ·have hw:=Cv (j:=j) (by omega)
  have hst:=Alt (p:=refuses) hjn
  have hln:=Af3 (p:=refuses) (path.take j) 0
  have htl:(path.take j).length<=j:=by simp;omega
  have hbd:((Le refuses (path.take j) 0).length+1)*8<=1099511627776:=by omega
  simp -implicitDefEqProofs [hjn]
  refine Aa (hR path[j] (hb.2 j hjn)) ?_
  by_cases h1:refuses path[j]=true
  ·rw[if_pos h1]at hst
   simp -implicitDefEqProofs [h1,hbd]
   exact⟨k-1,by omega,j+1,by omega,by simp[hw],by rw[hst];simp,by rw[hst]⟩
  ·rw[if_neg h1,List.append_nil]at hst
   simp -implicitDefEqProofs [h1]
   exact⟨k-1,by omega,j+1,by omega,by simp[hw],by rw[hst],by rw[hst]⟩
 ·have hx:=AmA (p:=refuses) (xs:=path) (j:=j) (by omega)
  simp -implicitDefEqProofs [hjn,hx]
theorem AFz (hR:AA9 (D 244)):Axz (Body D AtF):=by
 intro path hb hl
 have hres:At8 path=Le refuses path 0:=rfl
 rw[hres]
 simp -implicitDefEqProofs
 refine Ag (fun k s=>∃j v3 o1 o2 o3,j+k=path.length/\s=⟨[.undef,.undef,.arr 4,v3,.undef,.sl 1 4 path.length (path.flatMap DT),I path.length,I j,.undef,.undef],[.free,o1,o2,o3,.arr 1 0 (Le refuses (path.take j) 0).length (ints (Le refuses (path.take j) 0))]⟩) ?_ (path.length) _ ⟨0,.undef,.free,.free,.free,by simp,by simp[Le]⟩
 intro k s ⟨j,v3,o1,o2,o3,hj,hs⟩
 subst hs
 by_cases hjn:j<path.length
 ·have hw:=Cv (j:=j) (by omega)
  have hst:=Alt (p:=refuses) hjn
  have hln:=Af3 (p:=refuses) (path.take j) 0
  have htl:(path.take j).length<=j:=by simp;omega
  have hbd:((Le refuses (path.take j) 0).length+1)*8<=1099511627776:=by omega
  simp -implicitDefEqProofs [hjn]
  refine Aa (hR path[j] (hb.2 j hjn)) ?_
  by_cases h1:refuses path[j]=true
  ·rw[if_pos h1]at hst
   simp -implicitDefEqProofs [h1,hbd]
   exact⟨k-1,by omega,j+1,by omega,by simp[hw],by rw[hst];simp,by rw[hst]⟩
  ·rw[if_neg h1,List.append_nil]at hst
   simp -implicitDefEqProofs [h1]
   exact⟨k-1,by omega,j+1,by omega,by simp[hw],by rw[hst],by rw[hst]⟩
 ·have hx:=AmA (p:=refuses) (xs:=path) (j:=j) (by omega)
  simp -implicitDefEqProofs [hjn,hx]
def Az7 (e:Ai):Bool:=decide (0<(At8 e.path).length)
def Av5 (w:World):List Int:=Le Az7 w.ends 0
abbrev AyX:Prop:=∀w:World,Af w<=4194304->R [arg (Bu w)] [] (.sl 0 1 (Av5 w).length (ints (Av5 w))) []
theorem AJm {e:Ai} (h:Am e<=4194304):Cr Gm e.path<=4194304:=by unfold Am at h;omega
theorem AOG (hR:Axz (D 157)):AyX (Body D AL5):=by
 intro w hsz
 have hl:=FE hsz
 have hres:Av5 w=Le Az7 w.ends 0:=rfl
 rw[hres]
 simp -implicitDefEqProofs
 refine Ag (fun k s=>∃j o2 o3 o4,j+k=w.ends.length/\s=⟨[.undef,.ptr 0 0,.undef,.arr 5,I j,.undef,.undef],[.var ((Bu w).map (AO 1)),.free,o2,o3,o4,.arr 1 0 (Le Az7 (w.ends.take j) 0).length (ints (Le Az7 (w.ends.take j) 0))]⟩) ?_ (w.ends.length) _ ⟨0,.free,.free,.free,by simp,by simp[Le]⟩
 intro k s ⟨j,o2,o3,o4,hj,hs⟩
 subst hs
 by_cases hjn:j<w.ends.length
 ·have hw:=Cv (j:=j) (by omega)
  have hst:=Alt (p:=Az7) hjn
  have hln:=Af3 (p:=Az7) (w.ends.take j) 0
  have htl:(w.ends.take j).length<=j:=by simp;omega
  have hbd:((Le Az7 (w.ends.take j) 0).length+1)*8<=1099511627776:=by omega
  have hpp:=AJm (AdH hsz hjn)
  have hpl:=J9 (f:=Gm) (xs:=w.ends[j].path)
  simp -implicitDefEqProofs [hjn]
  refine Aa (hR w.ends[j].path (Aeg hpp) (by omega)) ?_
  have hq:Az7 w.ends[j]=decide (0<(At8 w.ends[j].path).length):=rfl
  by_cases h1:0<(At8 w.ends[j].path).length
  ·have h1':(0:Int)<(At8 w.ends[j].path).length:=by omega
   rw[if_pos (by rw[hq];simp[h1])]at hst
   simp -implicitDefEqProofs [h1,h1',hbd]
   exact⟨k-1,by omega,j+1,by omega,by simp[hw],by rw[hst];simp,by rw[hst]⟩
  ·have h1':¬(0:Int)<(At8 w.ends[j].path).length:=by omega
   rw[if_neg (by rw[hq];simp[h1]),List.append_nil]at hst
   simp -implicitDefEqProofs [h1,h1']
   exact⟨k-1,by omega,j+1,by omega,by simp[hw],by rw[hst],by rw[hst]⟩
 ·have hx:=AmA (p:=Az7) (xs:=w.ends) (j:=j) (by omega)
  simp -implicitDefEqProofs [hjn,hx]
theorem AGX (hR:Axz (D 195)):AyX (Body D Av3):=by
 intro w hsz
 have hl:=FE hsz
 have hres:Av5 w=Le Az7 w.ends 0:=rfl
 rw[hres]
 simp -implicitDefEqProofs
 refine Ag (fun k s=>∃j v4 o2 o3 o4 o5,j+k=w.ends.length/\s=⟨[.undef,.undef,.undef,.arr 6,v4,.undef,.sl 1 4 w.ends.length (w.ends.flatMap Ah),I w.ends.length,I j,.undef,.undef],[.var ((Bu w).map (AO 1)),.free,o2,o3,o4,o5,.arr 1 0 (Le Az7 (w.ends.take j) 0).length (ints (Le Az7 (w.ends.take j) 0))]⟩) ?_ (w.ends.length) _ ⟨0,.undef,.free,.free,.free,.free,by simp,by simp[Le]⟩
 intro k s ⟨j,v4,o2,o3,o4,o5,hj,hs⟩
 subst hs
 by_cases hjn:j<w.ends.length
 ·have hw:=Cv (j:=j) (by omega)
  have hst:=Alt (p:=Az7) hjn
  have hln:=Af3 (p:=Az7) (w.ends.take j) 0
  have htl:(w.ends.take j).length<=j:=by simp;omega
  have hbd:((Le Az7 (w.ends.take j) 0).length+1)*8<=1099511627776:=by omega
  have hpp:=AJm (AdH hsz hjn)
  have hpl:=J9 (f:=Gm) (xs:=w.ends[j].path)
  simp -implicitDefEqProofs [hjn]
  refine Aa (hR w.ends[j].path (Aeg hpp) (by omega)) ?_
  have hq:Az7 w.ends[j]=decide (0<(At8 w.ends[j].path).length):=rfl
  by_cases h1:0<(At8 w.ends[j].path).length
  ·have h1':(0:Int)<(At8 w.ends[j].path).length:=by omega
   rw[if_pos (by rw[hq];simp[h1])]at hst
   simp -implicitDefEqProofs [h1,h1',hbd]
   exact⟨k-1,by omega,j+1,by omega,by simp[hw],by rw[hst];simp,by rw[hst]⟩
  ·have h1':¬(0:Int)<(At8 w.ends[j].path).length:=by omega
   rw[if_neg (by rw[hq];simp[h1]),List.append_nil]at hst
   simp -implicitDefEqProofs [h1,h1']
   exact⟨k-1,by omega,j+1,by omega,by simp[hw],by rw[hst],by rw[hst]⟩
 ·have hx:=AmA (p:=Az7) (xs:=w.ends) (j:=j) (by omega)
  simp -implicitDefEqProofs [hjn,hx]
open Go.Lib
set_option maxHeartbeats 4000000
def AAX (n:Int):List UInt8:=if n=0 then [119,97,105,116]else if n=1 then [103,111,111,100]else if n=2 then [98,97,100]else []
abbrev Awz:Prop:=∀n:Int,R [I n] [] (Sb (AAX n)) []
theorem AOb (hI:Vf (D 71)):Awz (Body D AK1):=by
 intro n
 simp -implicitDefEqProofs
 refine Aa (hI n 0 2) ?_
 by_cases h:0<=n/\n<=2
 ·have hn:n=0∨n=1∨n=2:=by omega
  rcases hn with rfl | rfl | rfl
  all_goals simp -implicitDefEqProofs [AAX]
 ·have h0:¬n=0:=by omega
  have h1:¬n=1:=by omega
  have h2:¬n=2:=by omega
  simp -implicitDefEqProofs [h,AAX,h0,h1,h2]
theorem AEO (hI:Vf (D 114)):Awz (Body D AuM):=by
 intro n
 simp -implicitDefEqProofs
 refine Aa (hI n 0 2) ?_
 by_cases h:0<=n/\n<=2
 ·have hn:n=0∨n=1∨n=2:=by omega
  rcases hn with rfl | rfl | rfl
  all_goals simp -implicitDefEqProofs [AAX]
 ·have h0:¬n=0:=by omega
  have h1:¬n=1:=by omega
  have h2:¬n=2:=by omega
  simp -implicitDefEqProofs [h,AAX,h0,h1,h2]
theorem AAd {α:Type} {p:α->Bool}:∀(xs:List α) (i:Nat),i+xs.length<=9000000->DK (Le p xs i)
 | [],_,_=>by intro x hx;simp[Le]at hx
 | y::r,i,h=>by
  intro x hx
  simp only[List.length_cons]at h
  rw[Le]at hx
  split at hx
  ·rcases List.mem_cons.1 hx with rfl | hx
   ·unfold Py;omega
   ·exact AAd r (i+1) (by omega) x hx
  ·exact AAd r (i+1) (by omega) x hx
theorem AIQ (w:World) (h:w.ends.length<=4194304):DK (Ars w):=by
 intro x hx
 unfold Ars ABd at hx
 obtain⟨v,_,rfl⟩:=List.mem_map.1 hx
 have:=AF4 (AFs w v) w.ends.length
 unfold ABm Py
 omega
theorem AJr (w:World) (n:Int) (h:w.ends.length<=4194304):DK (Atf w n):=by
 intro x hx
 unfold Atf Atw at hx
 split at hx
 ·obtain⟨y,hy,rfl⟩:=List.mem_map.1 hx
  have:=AIQ w h y hy
  unfold Ax6
  split
  ·unfold Py;omega
  ·exact this
 ·cases hx
theorem AEz (w:World) (n:Int):(Atf w n).length<=10:=by
 unfold Atf Atw
 split
 ·simp[Ars,Axi]
 ·simp
theorem AKK (w:World) (h:∀l,l∈w.log->Py l.fin):DK (Ata w):=by
 intro x hx
 unfold Ata at hx
 rcases(AzL _ _ _).1 hx with hx | hx
 ·cases hx
 ·unfold Auy at hx
  obtain⟨l,hl,rfl⟩:=List.mem_map.1 hx
  exact h l (List.mem_filter.1 hl).1
theorem AGm (w:World):(Ata w).length<=w.log.length:=by
 have h1:=ADg (Auy w w.log) []
 have h2:(Auy w w.log).length<=w.log.length:=by unfold Auy;rw[List.length_map];exact List.length_filter_le _ _
 unfold Ata
 simp only[List.length_nil]at h1
 omega
theorem AKY (w:World) (i:Int):Py (AsR w i):=by
 have z:Py 0:=by unfold Py;omega
 unfold AsR
 split
 ·split
  ·rename_i e _
   unfold Axs
   split
   ·by_cases h:AJ w.server (leftOf e.versions (BZ e.path e.versions))=0
    ·rw[h];exact z
    ·have h2:=AJQ h
     have:=RF h2.2 _ h2.1
     unfold InV at this
     unfold Py
     omega
   ·exact z
  ·exact z
 ·exact z
structure Art (w:World):Prop where
 sz:Af w<=4194304
 ser:DK w.server
 roll:Py w.rollout.version/\DK w.rollout.stages/\Py w.rollout.pos
 now:Py w.now/\Py w.hurt
 ends:∀e,e∈w.ends->DK e.versions/\DK e.tags
 log:∀l,l∈w.log->Py l.fin/\AyE l.dialed
def bl (b:ByteArray):List UInt8:=b.data.toList
theorem ALc (b:ByteArray):Ww (bl b)=b:=by
 apply ByteArray.ext
 show b.data.toList.toArray=b.data
 simp
def wNo:List UInt8:=[110,111]
def wOk:List UInt8:=[111,107]
def Atb:List UInt8:=[119,104,97,116]
def Ayy (w:World):List UInt8:=match w.log[w.log.length-1]? with
 | some l=>F8 l.dialed
 | none=>wNo
def AsK (w:World) (word:List UInt8):Option (List UInt8):=
 if word=[108,97,115,116]then some (Ayy w)else if word=[115,105,103,110,97,108]then some (AAX (LB w))
 else if word=[104,97,114,100]then some (fmtList (Av5 w))else if word=[99,111,117,110,116,115]then some (fmtList (Ars w))
 else if word=[104,117,114,116]then some (fmtList (Ata w))else if word=[115,104,111,119]then some (VE w)
 else if word=[97,117,100,105,116]then some (if bl (Atx w)=[]then wOk else bl (Atx w))else none
def At3 (w:World) (word:List UInt8) (n:Int):Option (List UInt8):=
 if word=[101,110,100]then some (if NJ n 0 ((w.ends.length:Int)-1)then(match w.ends[n.toNat]? with | some e=>OI e | none=>wNo)else wNo)
 else if word=[98,101,115,116]then some (itoa (AsR w n))else if word=[104,97,115]then some (fmtList (Le (ABA n) w.ends 0))
 else if word=[115,116,114,97,110,100,101,100]then some (fmtList (Kj w.server (Fh w) n))else if word=[114,101,112,111,114,116]then some (fmtList (Atf w n))else none
abbrev AO6:Prop:=∀(w:World) (word:List UInt8),Art w->R [arg (Bu w),Sb word] [] (Sb ((AsK w word).getD Atb)) []
abbrev AKC:Prop:=∀(w:World) (word:List UInt8),Art w->R [arg (Bu w),Sb word] [] (.tup [Sb ((AsK w word).getD []),B (AsK w word).isSome]) []
abbrev APG:Prop:=∀(w:World) (word:List UInt8) (n:Int),Art w->Py n->R [arg (Bu w),Sb word,I n] [] (Sb ((At3 w word n).getD Atb)) []
abbrev AIS:Prop:=∀(w:World) (word:List UInt8) (n:Int),Art w->Py n->R [arg (Bu w),Sb word,I n] [] (.tup [Sb ((At3 w word n).getD []),B (At3 w word n).isSome]) []
theorem AAq {w:World} (h:Af w<=4194304):w.rollout.stages.length<=4194304:=OU h
theorem AJJ {w:World} (ok:Art w) (h:0<w.log.length):∃(i:Nat) (hi:i<w.log.length),w.log.length-1=i/\Ayy w=F8 w.log[i].dialed/\w.log[i].dialed.deal.tags.length<=4194304/\w.log[i].dialed.up.length<=4194304/\AyE w.log[i].dialed:=by
 have hl:w.log.length-1<w.log.length:=by omega
 have hz:=ok.sz
 have h1:=size_at (f:=Ip) hl
 have h2:Ip (w.log[w.log.length-1]'hl)=(w.log[w.log.length-1]'hl).dialed.deal.tags.length+(w.log[w.log.length-1]'hl).dialed.up.length:=rfl
 unfold Af at hz
 refine⟨_,hl,rfl,?_,by omega,by omega,(ok.log _ (List.getElem_mem hl)).2⟩
 unfold Ayy
 rw[List.getElem?_eq_getElem hl]
theorem APb (hD:JM (D 81)) (hN:Pq (D 82)) (hSN:Awz (D 83)) (hH:AyX (D 84)) (hL:Kb (D 85))
 (hV:Atq (D 86)) (hU:Axh (D 87)) (hW:K9 (D 88)) (hF:AA0 (D 89)) (hO:OrS (D 90)):AO6 (Body D AL9):=by
 intro w word ok
 have hsz:=ok.sz
 have he:=FE hsz
 have hlg:=Akl hsz
 have hs:=Od hsz
 have hst:=AAq hsz
 have hx1:(Av5 w).length<=4194304/\DK (Av5 w):=⟨Nat.le_trans (Af3 _ _) he,AAd _ _ (by omega)⟩
 have hx2:(Ars w).length<=4194304/\DK (Ars w):=⟨by rw[Ars,Axi];omega,AIQ w he⟩
 have hx3:(Ata w).length<=4194304/\DK (Ata w):=⟨by have:=AGm w;omega,AKK w fun l hl=>(ok.log l hl).1⟩
 by_cases c1:word=[108,97,115,116]
 ·by_cases g:w.log.length=0
  ·have hn:w.log=[]:=List.eq_nil_of_length_eq_zero g
   simp -implicitDefEqProofs [c1,hn,AsK,Ayy,wNo]
  ·have g':¬(w.log.length:Int)=0:=by omega
   obtain⟨i,hi,e1,e2,e3,e4,e5⟩:=AJJ ok (by omega)
   have hw1:IntKind.i64.wrap ((w.log.length:Int)-1)=(i:Int):=by rw[Ad (by omega) (by omega)];omega
   simp -implicitDefEqProofs [c1,g,g',hw1,hi]
   refine Aa (hD w.log[i].dialed e3 e4 e5.1.1 e5.1.2 e5.2.1 e5.2.2) ?_
   simp -implicitDefEqProofs [AsK,e2]
 by_cases c2:word=[115,105,103,110,97,108]
 ·simp -implicitDefEqProofs [c2]
  refine Aa (hN w hsz) ?_
  simp -implicitDefEqProofs
  refine Aa (hSN (LB w)) ?_
  simp -implicitDefEqProofs [AsK,c2]
 by_cases c3:word=[104,97,114,100]
 ·simp -implicitDefEqProofs [c3]
  refine Aa (hH w hsz) ?_
  simp -implicitDefEqProofs
  refine Aa (hL (Av5 w) hx1.1 hx1.2) ?_
  simp -implicitDefEqProofs [AsK,c3]
 by_cases c4:word=[99,111,117,110,116,115]
 ·simp -implicitDefEqProofs [c4]
  refine Aa (hV w hsz) ?_
  simp -implicitDefEqProofs
  refine Aa (hL (Ars w) hx2.1 hx2.2) ?_
  simp -implicitDefEqProofs [AsK,c4]
 by_cases c5:word=[104,117,114,116]
 ·simp -implicitDefEqProofs [c5]
  refine Aa (hU w hsz) ?_
  simp -implicitDefEqProofs
  refine Aa (hL (Ata w) hx3.1 hx3.2) ?_
  simp -implicitDefEqProofs [AsK,c5]
 by_cases c6:word=[115,104,111,119]
 ·simp -implicitDefEqProofs [c6]
  refine Aa (hW w hs.1 ok.ser hst ok.roll.1 ok.roll.2.1 ok.roll.2.2 he hlg ok.now.1 ok.now.2) ?_
  simp -implicitDefEqProofs [AsK,c6]
 by_cases c7:word=[97,117,100,105,116]
 ·simp -implicitDefEqProofs [c7]
  refine Aa (hF w hsz) ?_
  rw[<-ALc (Atx w)]
  by_cases g:bl (Atx w)=[]
  ·simp -implicitDefEqProofs [g]
   refine Aa (hO [] [111,107]) ?_
   simp -implicitDefEqProofs [g,AsK,wOk]
  ·simp -implicitDefEqProofs [g]
   refine Aa (hO (bl (Atx w)) [111,107]) ?_
   simp -implicitDefEqProofs [g,AsK]
 simp -implicitDefEqProofs [c1,c2,c3,c4,c5,c6,c7,AsK,Atb]
theorem ALy (hD:JM (D 126)) (hN:Pq (D 127)) (hSN:Awz (D 128)) (hH:AyX (D 129)) (hL:Kb (D 122))
 (hV:Atq (D 130)) (hU:Axh (D 131)) (hW:K9 (D 132)) (hF:AA0 (D 133)):AKC (Body D ABT):=by
 intro w word ok
 have hsz:=ok.sz
 have he:=FE hsz
 have hlg:=Akl hsz
 have hs:=Od hsz
 have hst:=AAq hsz
 have hx1:(Av5 w).length<=4194304/\DK (Av5 w):=⟨Nat.le_trans (Af3 _ _) he,AAd _ _ (by omega)⟩
 have hx2:(Ars w).length<=4194304/\DK (Ars w):=⟨by rw[Ars,Axi];omega,AIQ w he⟩
 have hx3:(Ata w).length<=4194304/\DK (Ata w):=⟨by have:=AGm w;omega,AKK w fun l hl=>(ok.log l hl).1⟩
 by_cases c1:word=[108,97,115,116]
 ·by_cases g:w.log.length=0
  ·have hn:w.log=[]:=List.eq_nil_of_length_eq_zero g
   simp -implicitDefEqProofs [c1,hn,AsK,Ayy,wNo]
  ·have g':¬(w.log.length:Int)=0:=by omega
   obtain⟨i,hi,e1,e2,e3,e4,e5⟩:=AJJ ok (by omega)
   have hw1:IntKind.i64.wrap ((w.log.length:Int)-1)=(i:Int):=by rw[Ad (by omega) (by omega)];omega
   simp -implicitDefEqProofs [c1,g,g',hw1,hi]
   refine Aa (hD w.log[i].dialed e3 e4 e5.1.1 e5.1.2 e5.2.1 e5.2.2) ?_
   simp -implicitDefEqProofs [AsK,e2]
 by_cases c2:word=[115,105,103,110,97,108]
 ·simp -implicitDefEqProofs [c2]
  refine Aa (hN w hsz) ?_
  simp -implicitDefEqProofs
  refine Aa (hSN (LB w)) ?_
  simp -implicitDefEqProofs [AsK,c2]
 by_cases c3:word=[104,97,114,100]
 ·simp -implicitDefEqProofs [c3]
  refine Aa (hH w hsz) ?_
  simp -implicitDefEqProofs
  refine Aa (hL (Av5 w) hx1.1 hx1.2) ?_
  simp -implicitDefEqProofs [AsK,c3]
 by_cases c4:word=[99,111,117,110,116,115]
 ·simp -implicitDefEqProofs [c4]
  refine Aa (hV w hsz) ?_
  simp -implicitDefEqProofs
  refine Aa (hL (Ars w) hx2.1 hx2.2) ?_
  simp -implicitDefEqProofs [AsK,c4]
 by_cases c5:word=[104,117,114,116]
 ·simp -implicitDefEqProofs [c5]
  refine Aa (hU w hsz) ?_
  simp -implicitDefEqProofs
  refine Aa (hL (Ata w) hx3.1 hx3.2) ?_
  simp -implicitDefEqProofs [AsK,c5]
 by_cases c6:word=[115,104,111,119]
 ·simp -implicitDefEqProofs [c6]
  refine Aa (hW w hs.1 ok.ser hst ok.roll.1 ok.roll.2.1 ok.roll.2.2 he hlg ok.now.1 ok.now.2) ?_
  simp -implicitDefEqProofs [AsK,c6]
 by_cases c7:word=[97,117,100,105,116]
 ·simp -implicitDefEqProofs [c7]
  refine Aa (hF w hsz) ?_
  rw[<-ALc (Atx w)]
  by_cases g:bl (Atx w)=[]
  ·simp -implicitDefEqProofs [g]
   simp -implicitDefEqProofs [g,AsK,wOk]
  ·simp -implicitDefEqProofs [g]
   simp -implicitDefEqProofs [g,AsK]
 simp -implicitDefEqProofs [c1,c2,c3,c4,c5,c6,c7,AsK]
theorem APw (hN:Vf (D 71)) (hE:Pm (D 91)) (hB:Ayv (D 92)) (hI:EB (D 93)) (hH:Awv (D 94)) (hL:Kb (D 85))
 (hLs:Q8 (D 95)) (hS:Ry (D 96)) (hR:AxK (D 97)):APG (Body D AMo):=by
 intro w word n ok hn
 have hsz:=ok.sz
 have he:=FE hsz
 have hlg:=Akl hsz
 have hs:=Od hsz
 have hst:=AAq hsz
 have hx1:(Le (ABA n) w.ends 0).length<=4194304/\DK (Le (ABA n) w.ends 0):=⟨Nat.le_trans (Af3 _ _) he,AAd _ _ (by omega)⟩
 have hll:(Fh w).length=w.ends.length:=by simp[Fh]
 have hx2:(Kj w.server (Fh w) n).length<=4194304/\DK (Kj w.server (Fh w) n):=⟨Nat.le_trans (Af3 _ _) (by omega),AAd _ _ (by omega)⟩
 have hx3:(Atf w n).length<=4194304/\DK (Atf w n):=⟨by have:=AEz w n;omega,AJr w n he⟩
 have hw1:IntKind.i64.wrap ((w.ends.length:Int)-1)=(w.ends.length:Int)-1:=Ad (by omega) (by omega)
 by_cases c1:word=[101,110,100]
 ·simp -implicitDefEqProofs [c1,hw1]
  refine Aa (hN n 0 ((w.ends.length:Int)-1)) ?_
  by_cases g:NJ n 0 ((w.ends.length:Int)-1)
  ·obtain⟨i,rfl⟩:∃i:Nat,n=(i:Int):=⟨n.toNat,by unfold NJ at g;omega⟩
   have hi:i<w.ends.length:=by unfold NJ at g;omega
   have hes:=AdH hsz hi
   have her:=ok.ends _ (List.getElem_mem hi)
   have g2:=g
   unfold NJ at g2
   have hsz1:Am w.ends[i]=w.ends[i].versions.length+w.ends[i].tags.length+Cr Gm w.ends[i].path:=rfl
   have hsz2:=J9 (f:=Gm) (xs:=w.ends[i].path)
   simp -implicitDefEqProofs [g,g2,hi]
   refine Aa (hE w.ends[i] (by omega) her.1 (by omega) her.2 (by omega)) ?_
   simp -implicitDefEqProofs [At3,hi]
   rw[if_pos g]
  ·have g2:=g
   unfold NJ at g2
   simp -implicitDefEqProofs [g,g2,At3,wNo]
 by_cases c2:word=[98,101,115,116]
 ·simp -implicitDefEqProofs [c2]
  refine Aa (hB w n hsz) ?_
  simp -implicitDefEqProofs
  refine Aa (hI (AsR w n) (AKY w n)) ?_
  simp -implicitDefEqProofs [At3,c2]
 by_cases c3:word=[104,97,115]
 ·simp -implicitDefEqProofs [c3]
  refine Aa (hH w n hsz) ?_
  simp -implicitDefEqProofs
  refine Aa (hL _ hx1.1 hx1.2) ?_
  simp -implicitDefEqProofs [At3,c3]
 by_cases c4:word=[115,116,114,97,110,100,101,100]
 ·simp -implicitDefEqProofs [c4]
  refine Aa (hLs w hsz) ?_
  simp -implicitDefEqProofs
  refine Aa (hS w.server (Fh w) n hs.1 (Ahj hsz)) ?_
  simp -implicitDefEqProofs
  refine Aa (hL _ hx2.1 hx2.2) ?_
  simp -implicitDefEqProofs [At3,c4]
 by_cases c5:word=[114,101,112,111,114,116]
 ·simp -implicitDefEqProofs [c5]
  refine Aa (hR w n hsz) ?_
  simp -implicitDefEqProofs
  refine Aa (hL _ hx3.1 hx3.2) ?_
  simp -implicitDefEqProofs [At3,c5]
 simp -implicitDefEqProofs [c1,c2,c3,c4,c5,At3,Atb]
theorem AHu (hN:Au5 (D 117)) (hE:Pm (D 118)) (hB:Ayv (D 119)) (hI:EB (D 120)) (hH:Awv (D 121)) (hL:Kb (D 122))
 (hLs:Q8 (D 123)) (hS:Ry (D 124)) (hR:AxK (D 125)):AIS (Body D Avm):=by
 intro w word n ok hn
 have hsz:=ok.sz
 have he:=FE hsz
 have hlg:=Akl hsz
 have hs:=Od hsz
 have hst:=AAq hsz
 have hx1:(Le (ABA n) w.ends 0).length<=4194304/\DK (Le (ABA n) w.ends 0):=⟨Nat.le_trans (Af3 _ _) he,AAd _ _ (by omega)⟩
 have hll:(Fh w).length=w.ends.length:=by simp[Fh]
 have hx2:(Kj w.server (Fh w) n).length<=4194304/\DK (Kj w.server (Fh w) n):=⟨Nat.le_trans (Af3 _ _) (by omega),AAd _ _ (by omega)⟩
 have hx3:(Atf w n).length<=4194304/\DK (Atf w n):=⟨by have:=AEz w n;omega,AJr w n he⟩
 have hw1:IntKind.i64.wrap ((w.ends.length:Int)-1)=(w.ends.length:Int)-1:=Ad (by omega) (by omega)
 by_cases c1:word=[101,110,100]
 ·simp -implicitDefEqProofs [c1,hw1]
  refine Aa (hN w n he) ?_
  by_cases g:NJ n 0 ((w.ends.length:Int)-1)
  ·obtain⟨i,rfl⟩:∃i:Nat,n=(i:Int):=⟨n.toNat,by unfold NJ at g;omega⟩
   have hi:i<w.ends.length:=by unfold NJ at g;omega
   have hes:=AdH hsz hi
   have her:=ok.ends _ (List.getElem_mem hi)
   have g2:=g
   unfold NJ at g2
   have hsz1:Am w.ends[i]=w.ends[i].versions.length+w.ends[i].tags.length+Cr Gm w.ends[i].path:=rfl
   have hsz2:=J9 (f:=Gm) (xs:=w.ends[i].path)
   simp -implicitDefEqProofs [g,g2,hi]
   refine Aa (hE w.ends[i] (by omega) her.1 (by omega) her.2 (by omega)) ?_
   simp -implicitDefEqProofs [At3,hi]
   rw[if_pos g]
  ·have g2:=g
   unfold NJ at g2
   simp -implicitDefEqProofs [g,g2,At3,wNo]
 by_cases c2:word=[98,101,115,116]
 ·simp -implicitDefEqProofs [c2]
  refine Aa (hB w n hsz) ?_
  simp -implicitDefEqProofs
  refine Aa (hI (AsR w n) (AKY w n)) ?_
  simp -implicitDefEqProofs [At3,c2]
 by_cases c3:word=[104,97,115]
 ·simp -implicitDefEqProofs [c3]
  refine Aa (hH w n hsz) ?_
  simp -implicitDefEqProofs
  refine Aa (hL _ hx1.1 hx1.2) ?_
  simp -implicitDefEqProofs [At3,c3]
 by_cases c4:word=[115,116,114,97,110,100,101,100]
 ·simp -implicitDefEqProofs [c4]
  refine Aa (hLs w hsz) ?_
  simp -implicitDefEqProofs
  refine Aa (hS w.server (Fh w) n hs.1 (Ahj hsz)) ?_
  simp -implicitDefEqProofs
  refine Aa (hL _ hx2.1 hx2.2) ?_
  simp -implicitDefEqProofs [At3,c4]
 by_cases c5:word=[114,101,112,111,114,116]
 ·simp -implicitDefEqProofs [c5]
  refine Aa (hR w n hsz) ?_
  simp -implicitDefEqProofs
  refine Aa (hL _ hx3.1 hx3.2) ?_
  simp -implicitDefEqProofs [At3,c5]
 simp -implicitDefEqProofs [c1,c2,c3,c4,c5,At3]
end Go.Eng.T
namespace Go.Eng.T
open Go.Lib
set_option maxRecDepth 20000
set_option maxHeartbeats 4000000
def AnV (n:Int) (st:List Int):World×Bool:=if 1<=n/\n<=6 then JV [1,2,3] [1,40] (AqH n) ⟨3,st,0,false⟩else(Wl,false)
theorem Aw7 (n:Int):Cr Am (AqH n)<=60:=by
 unfold AqH
 split
 ·rename_i h
  have hn:n=1∨n=2∨n=3∨n=4∨n=5∨n=6:=by omega
  rcases hn with rfl | rfl | rfl | rfl | rfl | rfl<;>decide
 ·decide
theorem AGg (n:Int) (st:List Int):Af (AnV n st).1<=65+st.length:=by
 unfold AnV
 split
 ·have h1:=AK5 [1,2,3] [1,40] (AqH n) ⟨3,st,0,false⟩
  have h2:=Aw7 n
  simp only[List.length_cons,List.length_nil,Db]at h1
  omega
 ·simp[Af,Wl,Cr,Db]
abbrev AF2 (R:Rel):Prop:=∀(n:Int) (st:List Int),st.length<=4194000->R [I n,.sl 1 1 st.length (ints st)] [] (.tup [.agg (Bu (AnV n st).1),B (AnV n st).2]) []
theorem AFj (D:Dn) (hI:Vf (D 114)) (hE:Aud (D 115)) (hN:RJ (D 116)):AF2 (Body D AuB):=by
 intro n st hl
 simp -implicitDefEqProofs
 refine Aa (hI n 1 6) ?_
 by_cases h:1<=n/\n<=6
 ·simp -implicitDefEqProofs [h]
  refine Aa (hE n) ?_
  simp -implicitDefEqProofs
  have hsz:Af (Cw [1,2,3] [1,40] (AqH n) ⟨3,st,0,false⟩)<=4194304:=by
   have h2:=Aw7 n
   rw[Amh]
   simp only[List.length_cons,List.length_nil,Db]
   omega
  have hnn:=hN [1,2,3] [1,40] (AqH n) ⟨3,st,0,false⟩ hsz
  refine Aa (show _ from hnn) ?_
  have e:AnV n st=JV [1,2,3] [1,40] (AqH n) ⟨3,st,0,false⟩:=by unfold AnV;rw[if_pos h]
  simp -implicitDefEqProofs [e]
 ·have e:AnV n st=(Wl,false):=by unfold AnV;rw[if_neg h]
  simp -implicitDefEqProofs [h,e,Wl]
end Go.Eng.T
namespace Go.Eng.T
set_option maxRecDepth 100000
def AtQ:=mk 0x80f6ca0001008bd69 0xc02ec02ca4022e0c24020ba402c02b2402c02ec02aa402022a2402031017601014d20101176014920110176014520110101 [0x40080008c021006800000000852880000100088008200088443d22c0818c02,0x328440061246210a2546821011a0020e46441020,0x21000e229180e6093200a81486600e668808000c8822092004e2202146,0x51080019023a30b43bc1a010627a62521e6290c001264684f45062,0xe73184500400118380c1c8005242024e8c40a0092a202180,0x1c200044920011c408a2,0xc510c0019023a30b43bc1a010627a6413d3935312dc001264684f450c2,0x2925212147006021306222110000000613564a0e050740024a2a181011423c20201004008aa202de0,0x25200004d212a0210a,0x438a220001096e0a514010301e9800000010a5100000200110010400110887ad2b230701839001958575655547040008a5190b81213d11292a,0xb4a50004204001000842100313d30000202548c002d40069214a7a2a14b,0x8480050e606a831614003402080f4c0000000852880000100088008200088443d855c0bebcbab8b6e0009323427a2c16a,0x4aa24108015c20270802c09261a03e1c20300191b1c9bdde8d20290402004008a5101498c,0x3935c5114000b50494f50001080a12509381287a6a12509000000010a5100000200110010400110887b42b000981c000303800a009d9995918d89c4ecccac8c6c494f2766656463627100808ad180a482056049001840029210080a48008011400610189ab,0x412000055220a021ca,0x3d3140008811adbd0d000313d31ea7a261ea,0x3d3140008811bdb90d000313d318a7a2620a,0x4ab24108015c20270802c05261a03e1c203001b1b1858d20290402004008a51014a2c,0x1c9a98e288c000c811adbd0d008313d35cdad8d6d4d2e0009623427a2824a,0x317488004088148007c208268,0xc510c000c4e4b4d500014800009400004211c0000847001c00000301800196a3014928040524005008a0030800c22008184004408a002880002213d11aa8b,0x60800318488000088148007c2082aa,0x1442000253921354001c00006000004a0e000141c004000000600045c8c0c22008184004408a002880002213d114acb,0xe4800119480041ca042ea,0x353140008811d185a1de0d000313d318a7a2630a,0x1a98a00064084000189e98d5018a7a2832a]
def Ays:=dT 0xd4f4c589a625a525a42108421084210844108069
def AGv:=mk 0x80f6ca0001008f94d 0xc02ec0292402c028a402030117601013d2010117601392011760135201176013120110176012d20110101 [0x40080008c021006800000000852880000100088008200088443d22c0818c02,0x4508400820011546440c20,0x21000e169180e6093219105412433027324404000022052000ea202146,0xa21000320474616877834020c4f4c43cc520cc001164684f45062,0xe73184500400118380c1c8004a42022e8c40a0092a202180,0x1c200043120011c408a2,0xc510c0019023a30b43bc1a010627a63d3935312d29c001164684f450c2,0x84d482b8404e10058124c3407c384060032363937bbd1a405208040080114a2025e4,0x18a21800620480060c4f4c440e02072aa8a6a4a2a0e080010c23c20427a2e10a,0x4272415c20270802c05261a03e1c203001b1b1858d20290402004008a5101292c,0x62886000c811adbd0d008313d336b4b2b0aeace0008ca3427a2814a,0xa1092050c188884400000018795bab8a181010d23c20201004008aa20e168,0x107a40044124001010a56188,0x21c518001094e09514010301e9800000010a5100000200110010400110887b2ab2307018390024636261605f70400086d190b81213d1129aa,0x292543000e4094010189e988c1c060eada9a5a19d99c20108031c465280953d1213d1109ca,0x8480011048007c2041ea,0x4452000002414a44208,0x41c51100008604003000842108313d30000a04043a8c0824008104004c08a002880002213d162e0dedcdad8e31706f6e6d6c718b837b736b6380022c8c002213d112a2b,0x4120004492000102414a4424a,0xc510c000b6040009401084210627a6000042281018f230129380404a4005808a0030800824008104004c08a002880002213d16eeceae8e6e4e37767574737271bbb3aba39b9380022c8c002213d118a6b,0x62886000c811d185a1de0d008313d37af8f6f4f2f0e0008b23427a2828a]
def AMy:=dT 0x2521c949c969494908421084410804d
def AJF:=mk 0x181ee940184100c3d21 0xc02ec03c201101 [0x3040300045090031806800000000852880000100088008200088443d21591e300e19002,0x1040009c20010840822,0x418800198237b721a010a27a63935312d2925c0011646c4f45042,0x83100023046b6f43400144f4d04f44c62]
def AMh:=dT 71538083659809
def ALu:=mk 0x101ed94000201093c 100729089 [0x40080008c021006800000000852880000100088008200088443d22c0818c02,0x7b835a200031005a42d21686a1e98b485a40000000429440000080044004100044221e96ac002148e00005238002500524a43cc530524a43cc520c412949290f314c108a020008023430038108c088041000880084000102e0248002208120481200808b0c0060100001202280022061184a1088121046350441181202204c6110d4121,0x6288240003581000168021084148c4f4c00084a38000094722a09e9c9a98949290f3143145413d393531292521e6286245413d393531c10821006388c0015c182400b20c04204c06023c3002cd0080164014022800b24400010000061000b48a27a20008427a23947]
def AM4:=dT 141876662300
attribute [simp] AtQ AGv AJF ALu
open Go.Lib
set_option maxRecDepth 20000
set_option maxHeartbeats 4000000
abbrev gW (x:World):V:= .agg [.arr 0,.arr 1,I x.key,.arr 2,I x.rollout.version,.arr 3,I x.rollout.pos,B x.rollout.off,I x.least,I x.percent,.arr 4,.arr 5,I x.now,I x.hurt,I x.reached]
abbrev gO (x:World):List O:=[.arr 1 0 x.server.length (ints x.server),.arr 1 0 x.tags.length (ints x.tags),.arr 4 0 x.ends.length (x.ends.flatMap Ah),.arr 1 0 x.rollout.stages.length (ints x.rollout.stages),.arr 5 0 x.stage.length (x.stage.flatMap AB),.arr 8 0 x.log.length (x.log.flatMap Az)]
abbrev AO9 (R:Rel):Prop:=∀w x:World,Af w<=4194304->R [arg (Bu w),gW x,B true] (gO x) (.tup [.agg (Bu x),Sb [111,107]]) [.dead,.dead,.dead,.dead,.dead,.dead]/\R [arg (Bu w),gW x,B false] (gO x) (.tup [.agg (Bu w),Sb [110,111]]) (gO x)
theorem AOk (D:Dn) (hC:EF (D 22)):AO9 (Body D AJF):=by
 intro w x hsz
 constructor
 ·simp -implicitDefEqProofs
  simp[List.range,List.range.loop]
 ·simp -implicitDefEqProofs
  refine Aa (hC w hsz) ?_
  simp -implicitDefEqProofs
  simp[List.range,List.range.loop,Cu]
abbrev AMl (R:Rel):Prop:=∀(w:World) (n:Int) (st:List Int),Af w<=4194304->st.length<=4194000->R [arg (Bu w),.sl 1 1 (st.length+1) (ints (n::st))] [] (.tup [.agg (Bu (if(AnV n st).2=true then(AnV n st).1 else w)),Sb (if(AnV n st).2=true then [111,107]else [110,111])]) []
theorem AOT (D:Dn) (hE:Aud (D 69)) (hN:RJ (D 70)) (hI:Vf (D 71)) (hS:AO9 (D 28)):AMl (Body D ALu):=by
 intro w n st hw hl
 have e3:1<=(st.length:Int)+1:=by omega
 simp -implicitDefEqProofs [e3]
 refine Aa (hE n) ?_
 have e4:(1:Int)<=st.length+1:=by omega
 have e5:part (ints (n::st)) 1 1 st.length=ints st:=by
  simp only[part,ints,List.map_cons,Nat.one_mul,Nat.mul_one,List.drop_succ_cons,List.drop_zero]
  rw[List.take_of_length_le (by simp)]
 have e6:((st.length:Int)+1).toNat=st.length+1:=by omega
 have hsz:Af (Cw [1,2,3] [1,40] (AqH n) ⟨3,st,0,false⟩)<=4194304:=by
  have h2:=Aw7 n
  rw[Amh]
  simp only[List.length_cons,List.length_nil,Db]
  omega
 have hnn:=hN [1,2,3] [1,40] (AqH n) ⟨3,st,0,false⟩ hsz
 have hns:=AK5 [1,2,3] [1,40] (AqH n) ⟨3,st,0,false⟩
 have hlw:AnV n st=if 1<=n/\n<=6 then JV [1,2,3] [1,40] (AqH n) ⟨3,st,0,false⟩else(Wl,false):=rfl
 generalize JV [1,2,3] [1,40] (AqH n) ⟨3,st,0,false⟩=p at hnn hns hlw
 obtain⟨x,ok⟩:=p
 simp -implicitDefEqProofs [e4,e5,e6]
 refine Aa (show _ from hnn) ?_
 have hss:=hS w x hw
 cases ok
 ·have e:(AnV n st).2=false:=by rw[hlw];split<;>rfl
  simp -implicitDefEqProofs [e]
  refine Aa (show _ from hss.2) ?_
  simp -implicitDefEqProofs
 ·by_cases g:1<=n/\n<=6
  ·rw[if_pos g]at hlw
   simp -implicitDefEqProofs [hlw]
   refine Aa (hI n 1 6) ?_
   simp -implicitDefEqProofs [g]
   refine Aa (show _ from hss.1) ?_
   simp -implicitDefEqProofs
  ·rw[if_neg g]at hlw
   simp -implicitDefEqProofs [hlw]
   refine Aa (hI n 1 6) ?_
   simp -implicitDefEqProofs [g]
   refine Aa (show _ from hss.2) ?_
   simp -implicitDefEqProofs
end Go.Eng.T
namespace Go.Eng.T
theorem Ajg (s:List Int) (ls:List (List Int)) (v pm:Int):(GN s ls v pm).1.length<=s.length:=by
 unfold GN
 split
 ·exact List.length_filter_le _ _
 ·exact Nat.le_refl _
theorem Aca (w:World) (v pm:Int):Af (Br w v pm).1<=Af w:=by
 unfold Br
 have:=Ajg w.server (Fh w) v pm
 split
 ·simp only[Af];omega
 ·exact Nat.le_refl _
set_option maxRecDepth 20000
set_option maxHeartbeats 4000000
def AA (w:World) (e:Event):World×Bool:=
 if e.kind=1 then CR w e.n else if e.kind=2 then Dc w else if e.kind=3 then BS w else if e.kind=4 then Br w e.n 200 else if e.kind=5 then EC w e.n
 else if e.kind=6 then Fg w e.n e.box else if e.kind=7 then DX w e.n else if e.kind=8 then ED w e.n else(w,false)
abbrev MS (R:Rel):Prop:=∀(w:World) (e:Event),Af w<=4194304->Hy e<=4194304->R [arg (Bu w),arg (BJ e)] [] (.tup [.agg (Bu (AA w e).1),B (AA w e).2]) []
theorem Adc (D:Dn) (hC:EF (D 22)) (h1:RZ (D 72)) (h2:OT (D 74)) (h3:Pk (D 75)) (h4:MZ (D 76)) (h5:MI (D 77))
 (h6:UJ (D 78)) (h7:Pv (D 79)) (h8:RL (D 80)):MS (Body D Jv):=by
 intro w e hsz hse
 simp -implicitDefEqProofs
 by_cases g1:e.kind=1
 ·have ha:AA w e=CR w e.n:=by unfold AA;simp[g1]
  rw[ha]
  simp -implicitDefEqProofs [g1]
  refine Aa (h1 w e.n hsz) ?_
  generalize CR w e.n=r
  simp -implicitDefEqProofs
 by_cases g2:e.kind=2
 ·have ha:AA w e=Dc w:=by unfold AA;simp[g2]
  rw[ha]
  simp -implicitDefEqProofs [g2]
  refine Aa (h2 w hsz) ?_
  generalize Dc w=r
  simp -implicitDefEqProofs
 by_cases g3:e.kind=3
 ·have ha:AA w e=BS w:=by unfold AA;simp[g3]
  rw[ha]
  simp -implicitDefEqProofs [g3]
  refine Aa (h3 w hsz) ?_
  generalize BS w=r
  simp -implicitDefEqProofs
 by_cases g4:e.kind=4
 ·have ha:AA w e=Br w e.n 200:=by unfold AA;simp[g4]
  rw[ha]
  simp -implicitDefEqProofs [g4]
  refine Aa (h4 w e.n 200 hsz) ?_
  generalize Br w e.n 200=r
  simp -implicitDefEqProofs
 by_cases g5:e.kind=5
 ·have ha:AA w e=EC w e.n:=by unfold AA;simp[g5]
  rw[ha]
  simp -implicitDefEqProofs [g5]
  refine Aa (h5 w e.n hsz) ?_
  generalize EC w e.n=r
  simp -implicitDefEqProofs
 by_cases g6:e.kind=6
 ·have ha:AA w e=Fg w e.n e.box:=by unfold AA;simp[g6]
  rw[ha]
  simp -implicitDefEqProofs [g6]
  refine Aa (h6 w e.n e.box hsz hse) ?_
  generalize Fg w e.n e.box=r
  simp -implicitDefEqProofs
 by_cases g7:e.kind=7
 ·have ha:AA w e=DX w e.n:=by unfold AA;simp[g7]
  rw[ha]
  simp -implicitDefEqProofs [g7]
  refine Aa (h7 w e.n hsz) ?_
  generalize DX w e.n=r
  simp -implicitDefEqProofs
 by_cases g8:e.kind=8
 ·have ha:AA w e=ED w e.n:=by unfold AA;simp[g8]
  rw[ha]
  simp -implicitDefEqProofs [g8]
  refine Aa (h8 w e.n hsz) ?_
  generalize ED w e.n=r
  simp -implicitDefEqProofs
 have ha:AA w e=(w,false):=by unfold AA;simp[g1,g2,g3,g4,g5,g6,g7,g8]
 rw[ha]
 simp -implicitDefEqProofs [g1,g2,g3,g4,g5,g6,g7,g8]
 refine Aa (hC w hsz) ?_
 simp -implicitDefEqProofs
theorem AER (D:Dn) (hC:EF (D 38)) (h1:RZ (D 106)) (h2:OT (D 107)) (h3:Pk (D 108)) (h4:MZ (D 109)) (h5:MI (D 110))
 (h6:UJ (D 111)) (h7:Pv (D 112)) (h8:RL (D 113)):MS (Body D AuZ):=by
 intro w e hsz hse
 simp -implicitDefEqProofs
 by_cases g1:e.kind=1
 ·have ha:AA w e=CR w e.n:=by unfold AA;simp[g1]
  rw[ha]
  simp -implicitDefEqProofs [g1]
  refine Aa (h1 w e.n hsz) ?_
  generalize CR w e.n=r
  simp -implicitDefEqProofs
 by_cases g2:e.kind=2
 ·have ha:AA w e=Dc w:=by unfold AA;simp[g2]
  rw[ha]
  simp -implicitDefEqProofs [g2]
  refine Aa (h2 w hsz) ?_
  generalize Dc w=r
  simp -implicitDefEqProofs
 by_cases g3:e.kind=3
 ·have ha:AA w e=BS w:=by unfold AA;simp[g3]
  rw[ha]
  simp -implicitDefEqProofs [g3]
  refine Aa (h3 w hsz) ?_
  generalize BS w=r
  simp -implicitDefEqProofs
 by_cases g4:e.kind=4
 ·have ha:AA w e=Br w e.n 200:=by unfold AA;simp[g4]
  rw[ha]
  simp -implicitDefEqProofs [g4]
  refine Aa (h4 w e.n 200 hsz) ?_
  generalize Br w e.n 200=r
  simp -implicitDefEqProofs
 by_cases g5:e.kind=5
 ·have ha:AA w e=EC w e.n:=by unfold AA;simp[g5]
  rw[ha]
  simp -implicitDefEqProofs [g5]
  refine Aa (h5 w e.n hsz) ?_
  generalize EC w e.n=r
  simp -implicitDefEqProofs
 by_cases g6:e.kind=6
 ·have ha:AA w e=Fg w e.n e.box:=by unfold AA;simp[g6]
  rw[ha]
  simp -implicitDefEqProofs [g6]
  refine Aa (h6 w e.n e.box hsz hse) ?_
  generalize Fg w e.n e.box=r
  simp -implicitDefEqProofs
 by_cases g7:e.kind=7
 ·have ha:AA w e=DX w e.n:=by unfold AA;simp[g7]
  rw[ha]
  simp -implicitDefEqProofs [g7]
  refine Aa (h7 w e.n hsz) ?_
  generalize DX w e.n=r
  simp -implicitDefEqProofs
 by_cases g8:e.kind=8
 ·have ha:AA w e=ED w e.n:=by unfold AA;simp[g8]
  rw[ha]
  simp -implicitDefEqProofs [g8]
  refine Aa (h8 w e.n hsz) ?_
  generalize ED w e.n=r
  simp -implicitDefEqProofs
 have ha:AA w e=(w,false):=by unfold AA;simp[g1,g2,g3,g4,g5,g6,g7,g8]
 rw[ha]
 simp -implicitDefEqProofs [g1,g2,g3,g4,g5,g6,g7,g8]
 refine Aa (hC w hsz) ?_
 simp -implicitDefEqProofs
theorem AfZ:∀(l:List Int) (v:Int),Ei (Ua l (Ei l v) v) v=Ei l v/\(Ua l (Ei l v) v)[Ei l v]? =some v
 | [],v=>by simp[Ei,Ua]
 | x::r,v=>by
  have:=AfZ r v
  by_cases h:x<v
  ·have e:Ua (x::r) (Ei (x::r) v) v=x::Ua r (Ei r v) v:=by simp[Ei,if_pos h,Ua]
   rw[e]
   simp only[Ei,if_pos h]
   exact⟨by rw[this.1],by simpa using this.2⟩
  ·simp[Ei,if_neg h,Ua]
theorem AiC (l:List Int) (v:Int):El (El l v) v=El l v:=by
 by_cases h:l[Ei l v]? =some v
 ·have e:El l v=l:=by unfold El;rw[if_pos h]
  rw[e,e]
 ·have e:El l v=Ua l (Ei l v) v:=by unfold El;rw[if_neg h]
  have:=AfZ l v
  rw[e]
  unfold El
  rw[this.1,if_pos this.2]
theorem Amg {l:List Int} {v:Int} (h:El l v=l):v∈l:=by
 unfold El at h
 split at h
 ·rename_i g;exact List.mem_of_getElem? g
 ·have:=congrArg List.length h
  rw[AgY (AeQ l v)]at this
  omega
def lacks (v:Int) (e:Ai):Nat:=if El e.versions v=e.versions then 0 else 1
def J2 (v:Int) (e:Ai):Nat:=Am e+lacks v e
def Yv (w:World):Nat:=w.server.length+w.tags.length+Cr (J2 w.rollout.version) w.ends+Db w.rollout+Cr Cb w.stage+Cr Ip w.log+(60-w.log.length)*50
theorem OA {α β:Type} {f:α->Nat} {g:β->Nat}:∀ {xs:List α} {ys:List β},xs.length=ys.length->(∀(i:Nat) (h:i<xs.length) (h':i<ys.length),f xs[i]<=g ys[i])->Cr f xs<=Cr g ys
 | [],[],_,_=>Nat.le_refl _
 | x::xs,y::ys,hl,h=>by
  have ih:=OA (f:=f) (g:=g) (xs:=xs) (ys:=ys) (by simpa using hl) (fun i h1 h2=>h (i+1) (by simpa using h1) (by simpa using h2))
  have h0:=h 0 (by simp) (by simp)
  simp only[Cr,List.length_cons,List.map_cons,List.sum_cons,List.getElem_cons_zero]at *
  omega
 | [],_::_,hl,_=>by simp at hl
 | _::_,[],hl,_=>by simp at hl
theorem AnN (w:World):Af w<=Yv w:=by
 have:Cr Am w.ends<=Cr (J2 w.rollout.version) w.ends:=OA rfl (fun i h h'=>by unfold J2;omega)
 unfold Af Yv
 omega
theorem Am5 (w:World):Yv w<=Af w+w.ends.length+3000:=by
 have key:∀(v:Int) (l:List Ai),Cr (J2 v) l<=Cr Am l+l.length:=by
  intro v l
  induction l with
  | nil=>simp[Cr]
  | cons e l ih=>
   have:lacks v e<=1:=by unfold lacks;split<;>omega
   simp only[Cr,J2,List.length_cons,List.map_cons,List.sum_cons]at *
   omega
 have:=key w.rollout.version w.ends
 unfold Af Yv
 omega
theorem Aoo (v:Int) (e:Ai):J2 v ⟨El e.versions v,e.tags,e.path,e.cls⟩<=J2 v e:=by
 have h1:=Rm e.versions v
 unfold J2 lacks Am
 dsimp only
 rw[if_pos (AiC _ _)]
 split
 ·rename_i h;rw[h];omega
 ·omega
theorem filter_lt {p:Int->Bool} {l:List Int} {x:Int} (h:x∈l) (hp:p x=false):(l.filter p).length<l.length:=by
 induction l with
 | nil=>simp at h
 | cons a r ih=>
  have hr:=List.length_filter_le p r
  rcases List.mem_cons.1 h with rfl | h
  ·rw[List.filter_cons_of_neg (by simp[hp])]
   simp only[List.length_cons];omega
  ·have:=ih h
   rw[List.filter_cons]
   split<;>simp only[List.length_cons]<;>omega
theorem AkC (w:World) (e:Ai):J2 w.rollout.version (Ev w e)<=J2 w.rollout.version e:=by
 unfold Ev
 split
 ·have h1:(Co e.versions w.rollout.version).length<=e.versions.length:=List.length_filter_le _ _
  unfold J2 Am
  dsimp only
  by_cases hg:El e.versions w.rollout.version=e.versions
  ·have h2:(Co e.versions w.rollout.version).length<e.versions.length:=filter_lt (Amg hg) (by simp)
   have:lacks w.rollout.version ⟨Co e.versions w.rollout.version,e.tags,e.path,e.cls⟩<=1:=by unfold lacks;split<;>omega
   omega
  ·have h2:lacks w.rollout.version e=1:=by unfold lacks;rw[if_neg hg]
   have:lacks w.rollout.version ⟨Co e.versions w.rollout.version,e.tags,e.path,e.cls⟩<=1:=by unfold lacks;split<;>omega
   omega
 ·exact Nat.le_refl _
theorem Adp (w:World):Yv (enter w)<=Yv w:=by
 unfold enter
 split
 ·have h:Cr (J2 w.rollout.version) (w.ends.mapIdx (Fv w))<=Cr (J2 w.rollout.version) w.ends:=OA (by simp) (fun i h h'=>by
   rw[List.getElem_mapIdx]
   unfold Fv
   split
   ·exact Aoo _ _
   ·exact Nat.le_refl _)
  have h0:Cr Cb ([]:List BP)=0:=rfl
  simp only[Yv,h0]
  omega
 ·exact Nat.le_refl _
theorem Aqj (w:World):Yv (leave w)<=Yv w:=by
 have h:Cr (J2 w.rollout.version) (w.ends.map (Ev w))<=Cr (J2 w.rollout.version) w.ends:=OA (by simp) (fun i h h'=>by
  rw[List.getElem_map]
  exact AkC w _)
 have h0:Cr Cb ([]:List BP)=0:=rfl
 unfold leave
 simp only[Yv,h0]
 omega
theorem Ag5 {w:World} {r:AX} (h:Db r=Db w.rollout) (hv:r.version=w.rollout.version):Yv (Ca w r)=Yv w:=by
 unfold Ca
 simp only[Yv,h,hv]
theorem Agw (r:AX):(Bp r).1.version=r.version:=by unfold Bp;split<;>rfl
theorem AjI {w:World} {j:Nat} (hj:j<w.ends.length) (e:Ai):Yv {w with ends:=w.ends.set j e} +J2 w.rollout.version w.ends[j]=Yv w+J2 w.rollout.version e:=by
 have:=size_set (f:=J2 w.rollout.version) hj e
 simp only[Yv]
 omega
theorem AkM (w:World) (e:Event):Yv (AA w e).1<=Yv w+1+Hy e:=by
 unfold AA
 split
 ·have h:=AdZ w e.n
  obtain⟨h1,h2,h3⟩:=h
  have h4:(CR w e.n).1.server=w.server/\(CR w e.n).1.tags=w.tags:=by unfold CR;split<;>exact⟨rfl,rfl⟩
  unfold Af at h1
  rw[h2,h3,h4.1,h4.2]at h1
  unfold Yv
  rw[h2,h3,h4.1,h4.2]
  have hm:Cr Am w.ends<=Cr (J2 w.rollout.version) w.ends:=OA rfl (fun i h h'=>by unfold J2;omega)
  omega
 split
 ·have:=Adp w
  unfold Dc
  split<;>dsimp only<;>omega
 split
 ·unfold BS
  split
  ·dsimp only;omega
  split
  ·split
   ·have:=Adp (Ca w (Bp w.rollout).1)
    rw[Ag5 (AjU _) (Agw _)]at this
    dsimp only;omega
   ·dsimp only;omega
  split
  ·split
   ·have:=Aqj (Ca w (BI w.rollout).1)
    rw[Ag5 (Aoc _) (Abi _)]at this
    dsimp only;omega
   ·dsimp only;omega
  ·dsimp only;omega
 split
 ·have h:=Aca w e.n 200
  have h2:(Br w e.n 200).1.ends=w.ends/\(Br w e.n 200).1.rollout=w.rollout/\(Br w e.n 200).1.stage=w.stage/\(Br w e.n 200).1.log=w.log/\(Br w e.n 200).1.tags=w.tags:=by
   unfold Br
   repeat' split
   all_goals exact⟨rfl,rfl,rfl,rfl,rfl⟩
  unfold Af at h
  rw[h2.1,h2.2.1,h2.2.2.1,h2.2.2.2.1,h2.2.2.2.2]at h
  unfold Yv
  rw[h2.1,h2.2.1,h2.2.2.1,h2.2.2.2.1,h2.2.2.2.2]
  omega
 split
 ·have h:=Ac7 w e.n
  unfold Af at h
  unfold Yv
  unfold EC at *
  dsimp only at *
  omega
 split
 ·unfold Fg
  split
  ·split
   ·rename_i x hx
    split
    ·obtain⟨hj,rfl⟩:=List.getElem?_eq_some_iff.1 hx
     have:=AjI hj ⟨w.ends[e.n.toNat].versions,w.ends[e.n.toNat].tags,w.ends[e.n.toNat].path++ [e.box],w.ends[e.n.toNat].cls⟩
     have h1:J2 w.rollout.version ⟨w.ends[e.n.toNat].versions,w.ends[e.n.toNat].tags,w.ends[e.n.toNat].path++ [e.box],w.ends[e.n.toNat].cls⟩=J2 w.rollout.version w.ends[e.n.toNat]+1+Gm e.box:=by
      unfold J2 Am lacks
      simp only[Cr,List.length_append,List.length_cons,List.length_nil,List.map_append,List.map_cons,List.map_nil,List.sum_append,List.sum_cons,List.sum_nil]
      omega
     unfold Hy
     dsimp only
     omega
    ·dsimp only;omega
   ·dsimp only;omega
  ·dsimp only;omega
 split
 ·unfold DX
  split
  ·split
   ·rename_i x hx
    split
    ·dsimp only;omega
    ·unfold Ob
     rw[hx]
     obtain⟨hj,rfl⟩:=List.getElem?_eq_some_iff.1 hx
     have:=AjI hj ⟨w.ends[e.n.toNat].versions,w.ends[e.n.toNat].tags,[],w.ends[e.n.toNat].cls⟩
     have h1:J2 w.rollout.version ⟨w.ends[e.n.toNat].versions,w.ends[e.n.toNat].tags,[],w.ends[e.n.toNat].cls⟩<=J2 w.rollout.version w.ends[e.n.toNat]:=by
      unfold J2 Am lacks
      simp only[Cr,List.length_nil,List.map_nil,List.sum_nil]
      omega
     dsimp only
     omega
   ·dsimp only;omega
  ·dsimp only;omega
 split
 ·unfold ED
  split
  ·simp only[Yv];omega
  ·dsimp only;omega
 ·dsimp only;omega
set_option maxHeartbeats 2000000
set_option maxHeartbeats 2000000
end Go.Eng.T
namespace Go.Eng.T
open Go.Eng.X
set_option maxRecDepth 100000
def AuV:=mk 35459254198940 0xc0202ec03820110101 [4573968510485506,0x1484188600200020104fe191000800413e86041820,0x35c10621c4224430045a2882180a412840a0c310e08043020700301cc12670150290cc01cc810100040400004140860203944,0x4184040002208000c40862,0x18a1280104804040a1c30302202303050a1910102108468040208c0800c14286441c80,0x29061014000b504290102129a00160a24321084431bc084c04020880044288208010040840c14286409800880702022062031a2]
def Azs:=dT 2512694677532
def LJ:Nat->Ce
 |0=>R 0 [m (z 1)] [] [1]
 |1=>R 1 [m i0] [(2,0)] []
 |2=>R 2 [m s0,e l0,m i0] [(6,0),(7,1),(8,2)] []
 |3=>R 3 [y .lss s8 s7] [(9,0)] []
 |4=>R 4 [A 1 s6 s8,L l0,m l1] [(3,2)] []
 |5=>R 5 [m s2,m s3,e l1,y .add l0 l2,m l3] [(2,4)] [3]
 |6=>R 6 [m s2,y .lss l0 i0] [(10,1)] []
 |7=>R 8 [y .add s8 i1,m l0] [(8,1)] []
 |8=>Q 9 [m s2,C 419 [r (.con (.sc (.slice none 0 0))),r l0] [0],m l1] [(4,2)] [2,6,7,8] [] [w 0 2]
 |9=>R 10 [m s0,e l0,m i0] [(11,0),(12,1),(13,2)] [0]
 |10=>R 11 [y .lss s13 s12] [(14,0)] []
 |11=>R 12 [A 1 s11 s13,L l0,m l1] [(5,2)] []
 |12=>Q 13 [m s4,m s5,q 1 1 8 l0 l1,m l2] [(4,3)] [5] [1] [w 1 2]
 |13=>R 14 [y .add s13 i1,m l0] [(13,1)] []
 |_=>R 15 [m s4,m l0] [(1,1)] [4,11,12,13]
def AsF:Cm:=⟨15,3,[0],0,false,[],U (LJ 0) (U (LJ 1) (j (U (LJ 2) (.block 0 (.loop (U (LJ 3) (j (h 9 sk (.exit 0)) (j (.block 1 (U (LJ 4) (U (LJ 5) (U (LJ 6) (hs 10 (.stuck)))))) (d (LJ 7)))))))) (U (LJ 8) (j (U (LJ 9) (.block 2 (.loop (U (LJ 10) (j (h 14 sk (.exit 2)) (j (.block 3 (U (LJ 11) (d (LJ 12)))) (d (LJ 13)))))))) (ur (LJ 14)))))),[.slot 1]⟩
def Avs:List Tmp:=[0,2,3,5,6,8,9,10,11,12,20,25,26,27,28]
attribute [simp] AuV LJ AsF
end Go.Eng.T
namespace Go.Eng.T
end Go.Eng.T
namespace Go.Eng.T
set_option maxRecDepth 20000
set_option maxHeartbeats 4000000
set_option maxHeartbeats 2000000
set_option maxHeartbeats 4000000
structure LW (n:Nat) (w:World):Prop where
 ok:Ap w=true
 pt:Yv w<=3500+10*n
 log:w.log.length<=n
 stg:w.stage.length<=n
 ends:0<w.ends.length/\w.ends.length<=5
set_option maxHeartbeats 4000000
theorem ATK:∀(n:Nat) (k:Int),nums n k++ [k+n]=nums (n+1) k
 | 0,k=>by simp[nums]
 | n+1,k=>by
  have:=ATK n (k+1)
  simp only[nums,List.cons_append]
  rw[show k+((n+1:Nat):Int)=k+1+(n:Int)by omega,this]
  rfl
theorem AUJ {xs:List Int} {k:Int} {j:Nat} (h:j<xs.length):(nums j k++xs.drop j).set j (k+j)=nums (j+1) k++xs.drop (j+1):=by
 rw[List.set_append_right _ _ (by simp),AnC,Nat.sub_self,List.drop_eq_getElem_cons h,List.set_cons_zero,<-ATK,List.append_assoc]
 rfl
variable (R:Rel)
abbrev APo:Prop:=∀(xs:List Int) (k:Int),0<=k->k+xs.length<=4611686018427387904->R [.arr 0,I k] [.arr 1 0 xs.length (ints xs)] (I (k+xs.length)) [.arr 1 0 xs.length (ints (nums xs.length k))]
variable (D:Dn)
theorem AUv:APo (Body D AQA):=by
 intro xs k hk hl
 simp -implicitDefEqProofs
 refine Ag (fun n s=>∃j,j+n=xs.length/\s=⟨[.arr 0,.sc (.int .i64 (k+j)),.undef,.sc (.int .i64 j),.undef],[.arr 1 0 xs.length (ints (nums j k++xs.drop j))]⟩) ?_ xs.length _ ⟨0,by simp,by simp[nums]⟩
 intro n s ⟨j,hj,hs⟩
 subst hs
 by_cases hjn:j<xs.length
 ·have hw:=Cv (j:=j) (by omega)
  have hw2:IntKind.i64.wrap (k+j+1)=k+(j+1:Nat):=by rw[Ad (by omega) (by omega)];omega
  have hlen:j+(xs.length-j)=xs.length:=by omega
  simp -implicitDefEqProofs [hjn,hlen, -List.append_assoc,AUJ hjn]
  exact⟨n-1,by omega,j+1,by omega,⟨by simpa using hw2,by simp[hw]⟩,rfl⟩
 ·have hje:j=xs.length:=by omega
  subst hje
  simp -implicitDefEqProofs [Cu]
abbrev APm:Prop:=∀(n:Nat) (k:Int),0<=k->k+n<=4611686018427387904->R [.sl 1 1 n (ints (nums n k)),I k] [] (I (k+n)) []
theorem AUs:APm (Body D AQL):=by
 intro m k hk hl
 simp -implicitDefEqProofs
 refine Ag (fun n s=>∃j,j+n=m/\s=⟨[.sl 1 1 m (ints (nums m k)),.sc (.int .i64 (k+j)),.undef,.sc (.int .i64 j),.undef,.undef],[]⟩) ?_ m _ ⟨0,by simp,by simp⟩
 intro n s ⟨j,hj,hs⟩
 subst hs
 by_cases hjn:j<m
 ·have hw:=Cv (j:=j) (by omega)
  have hw2:IntKind.i64.wrap (k+j+1)=k+(j+1:Nat):=by rw[Ad (by omega) (by omega)];omega
  simp -implicitDefEqProofs [hjn,AT8]
  exact⟨n-1,by omega,j+1,by omega,by simpa using hw2,by simp[hw]⟩
 ·have hje:j=m:=by omega
  subst hje
  simp -implicitDefEqProofs
abbrev ARA:Prop:=∀(xs:List EG) (k:Int),0<=k->k+mcL AOw xs<=4611686018427387904->R [.arr 0,I k] [.arr 4 0 xs.length (xs.flatMap DT)] (I (k+mcL AOw xs)) [.arr 4 0 xs.length ((mkL AOw ARu xs k).flatMap DT)]
theorem AUz (hmarkIntS:APo (D 52)):ARA (Body D AQF):=by
 intro xs k hk hl
 have hlen:xs.length<=mcL AOw xs:=ARn (fun x=>by unfold AOw;omega) xs
 simp -implicitDefEqProofs
 refine Ag (fun n s=>∃j o,fd o/\j+n=xs.length/\s=⟨[.arr 0,.sc (.int .i64 (k+mcL AOw (xs.take j))),.undef,.sc (.int .i64 j),.undef],[.arr 4 0 xs.length ((mkJ AOw ARu xs k j).flatMap DT),o,o]⟩) ?_ xs.length _ ⟨0,.free,Aso,by simp,by simp[ASf,mcL]⟩
 intro n s ⟨j,o,ho,hj,hs⟩
 subst hs
 by_cases hjn:j<xs.length
 ·have hw:=Cv (j:=j) (by omega)
  have hjl:j<=xs.length:=by omega
  have hst:=AQb (mc:=AOw) hjn
  have hle:=ARo (mc:=AOw) (xs:=xs) (j:=j+1)
  have hmc:AOw xs[j]=1+xs[j].drops.length+xs[j].strips.length+1:=rfl
  have hset:=ASP (mc:=AOw) (mk:=ARu) (k:=k) hjn
  generalize hK:k+(mcL AOw (xs.take j):Int)=K at hset⊢
  have hw0:IntKind.i64.wrap (K+1)=K+1:=Ad (by omega) (by omega)
  have hw3:IntKind.i64.wrap (K+1+((xs[j].drops.length:Nat):Int)+((xs[j].strips.length:Nat):Int)+1)=K+1+((xs[j].drops.length:Nat):Int)+((xs[j].strips.length:Nat):Int)+1:=Ad (by omega) (by omega)
  have hf1:j*4+1<xs.length*4:=by omega
  have hf2:j*4+2<xs.length*4:=by omega
  have hf3:j*4+3<xs.length*4:=by omega
  rcases ho with rfl | rfl
  all_goals simp -implicitDefEqProofs [hjn,hjl,APl hjn,hw0,hw3,hf1,hf2,hf3]
  all_goals refine Aa (hmarkIntS xs[j].drops _ (by omega) (by omega)) ?_
  all_goals simp -implicitDefEqProofs [hjn,hjl,APl hjn,hw0,hw3,hf1,hf2,hf3]
  all_goals refine Aa (hmarkIntS xs[j].strips _ (by omega) (by omega)) ?_
  all_goals simp -implicitDefEqProofs [hjn,hjl,APl hjn,hw0,hw3,hf1,hf2,hf3]
  all_goals exact⟨n-1,by omega,j+1,.dead,Ar4,by omega,⟨by first | omega | (rw[Ad (by omega) (by omega)];omega),by simp[hw]⟩,by rw[<-hset];rfl,rfl⟩
 ·have hje:=ASN (mc:=AOw) (mk:=ARu) (xs:=xs) (k:=k) (j:=j) (by omega)
  have hma:=AQN (mc:=AOw) (xs:=xs) (j:=j) (by omega)
  simp -implicitDefEqProofs [hjn,hje,hma,Cu]
abbrev ARy:Prop:=∀(xs:List EG) (k:Int),0<=k->k+mcL AOw xs<=4611686018427387904->R [.sl 1 4 xs.length ((mkL AOw ARu xs k).flatMap DT),I k] [] (I (k+mcL AOw xs)) []
theorem AUE (hheldIntS:APm (D 57)):ARy (Body D AQG):=by
 intro xs k hk hl
 have hlen:xs.length<=mcL AOw xs:=ARn (fun x=>by unfold AOw;omega) xs
 simp -implicitDefEqProofs
 refine Ag (fun n s=>∃j,j+n=xs.length/\s=⟨[.sl 1 4 xs.length ((mkL AOw ARu xs k).flatMap DT),.sc (.int .i64 (k+mcL AOw (xs.take j))),.undef,.sc (.int .i64 j),.undef,.undef,.undef,.undef,.undef],[]⟩) ?_ xs.length _ ⟨0,by simp,by simp[mcL]⟩
 intro n s ⟨j,hj,hs⟩
 subst hs
 by_cases hjn:j<xs.length
 ·have hw:=Cv (j:=j) (by omega)
  have hst:=AQb (mc:=AOw) hjn
  have hle:=ARo (mc:=AOw) (xs:=xs) (j:=j+1)
  have hmc:AOw xs[j]=1+xs[j].drops.length+xs[j].strips.length+1:=rfl
  have hY:=ASh (mc:=AOw) (mk:=ARu) xs k j hjn
  generalize hK:k+(mcL AOw (xs.take j):Int)=K at hY⊢
  have hw0:IntKind.i64.wrap (K+1)=K+1:=Ad (by omega) (by omega)
  have hn1:¬K+1+((xs[j].drops.length:Nat):Int)<0:=by omega
  have hn2:¬K+1+((xs[j].drops.length:Nat):Int)+((xs[j].strips.length:Nat):Int)<0:=by omega
  have hw3:IntKind.i64.wrap (K+1+((xs[j].drops.length:Nat):Int)+((xs[j].strips.length:Nat):Int)+1)=K+1+((xs[j].drops.length:Nat):Int)+((xs[j].strips.length:Nat):Int)+1:=Ad (by omega) (by omega)
  simp -implicitDefEqProofs [hjn,hY,ARu,hw0,hn1,hn2,hw3]
  refine Aa (hheldIntS xs[j].drops.length _ (by omega) (by omega)) ?_
  simp -implicitDefEqProofs [hjn,hY,ARu,hw0,hn1,hn2,hw3]
  refine Aa (hheldIntS xs[j].strips.length _ (by omega) (by omega)) ?_
  simp -implicitDefEqProofs [hjn,hY,ARu,hw0,hn1,hn2,hw3]
  exact⟨n-1,by omega,j+1,by omega,by first | omega | (rw[Ad (by omega) (by omega)];omega),by simp[hw]⟩
 ·have hma:=AQN (mc:=AOw) (xs:=xs) (j:=j) (by omega)
  simp -implicitDefEqProofs [hjn,hma]
abbrev APV:Prop:=∀(xs:List Ai) (k:Int),0<=k->k+mcL AMp xs<=4611686018427387904->R [.arr 0,I k] [.arr 4 0 xs.length (xs.flatMap Ah)] (I (k+mcL AMp xs)) [.arr 4 0 xs.length ((mkL AMp AOA xs k).flatMap Ah)]
theorem ASL (hmarkIntS:APo (D 52)) (hmarkBoxS:ARA (D 137)):APV (Body D APN):=by
 intro xs k hk hl
 have hlen:xs.length<=mcL AMp xs:=ARn (fun x=>by unfold AMp;omega) xs
 simp -implicitDefEqProofs
 refine Ag (fun n s=>∃j o,fd o/\j+n=xs.length/\s=⟨[.arr 0,.sc (.int .i64 (k+mcL AMp (xs.take j))),.undef,.sc (.int .i64 j),.undef],[.arr 4 0 xs.length ((mkJ AMp AOA xs k j).flatMap Ah),o,o,o]⟩) ?_ xs.length _ ⟨0,.free,Aso,by simp,by simp[ASf,mcL]⟩
 intro n s ⟨j,o,ho,hj,hs⟩
 subst hs
 by_cases hjn:j<xs.length
 ·have hw:=Cv (j:=j) (by omega)
  have hjl:j<=xs.length:=by omega
  have hst:=AQb (mc:=AMp) hjn
  have hle:=ARo (mc:=AMp) (xs:=xs) (j:=j+1)
  have hmc:AMp xs[j]=xs[j].versions.length+xs[j].tags.length+mcL AOw xs[j].path+1:=rfl
  have hset:=ASP (mc:=AMp) (mk:=AOA) (k:=k) hjn
  generalize hK:k+(mcL AMp (xs.take j):Int)=K at hset⊢
  have hw3:IntKind.i64.wrap (K+((xs[j].versions.length:Nat):Int)+((xs[j].tags.length:Nat):Int)+((mcL AOw xs[j].path:Nat):Int)+1)=K+((xs[j].versions.length:Nat):Int)+((xs[j].tags.length:Nat):Int)+((mcL AOw xs[j].path:Nat):Int)+1:=Ad (by omega) (by omega)
  have hf1:j*4+1<xs.length*4:=by omega
  have hf2:j*4+2<xs.length*4:=by omega
  have hf3:j*4+3<xs.length*4:=by omega
  rcases ho with rfl | rfl
  all_goals simp -implicitDefEqProofs [hjn,hjl,APl hjn,hw3,hf1,hf2,hf3]
  all_goals refine Aa (hmarkIntS xs[j].versions _ (by omega) (by omega)) ?_
  all_goals simp -implicitDefEqProofs [hjn,hjl,APl hjn,hw3,hf1,hf2,hf3]
  all_goals refine Aa (hmarkIntS xs[j].tags _ (by omega) (by omega)) ?_
  all_goals simp -implicitDefEqProofs [hjn,hjl,APl hjn,hw3,hf1,hf2,hf3]
  all_goals refine Aa (hmarkBoxS xs[j].path _ (by omega) (by omega)) ?_
  all_goals simp -implicitDefEqProofs [hjn,hjl,APl hjn,hw3,hf1,hf2,hf3]
  all_goals exact⟨n-1,by omega,j+1,.dead,Ar4,by omega,⟨by first | omega | (rw[Ad (by omega) (by omega)];omega),by simp[hw]⟩,by rw[<-hset];rfl,rfl⟩
 ·have hje:=ASN (mc:=AMp) (mk:=AOA) (xs:=xs) (k:=k) (j:=j) (by omega)
  have hma:=AQN (mc:=AMp) (xs:=xs) (j:=j) (by omega)
  simp -implicitDefEqProofs [hjn,hje,hma,Cu]
abbrev AP7:Prop:=∀(xs:List Ai) (k:Int),0<=k->k+mcL AMp xs<=4611686018427387904->R [.sl 1 4 xs.length ((mkL AMp AOA xs k).flatMap Ah),I k] [] (I (k+mcL AMp xs)) []
theorem ASM (hheldIntS:APm (D 57)) (hheldBoxS:ARy (D 138)):AP7 (Body D APJ):=by
 intro xs k hk hl
 have hlen:xs.length<=mcL AMp xs:=ARn (fun x=>by unfold AMp;omega) xs
 simp -implicitDefEqProofs
 refine Ag (fun n s=>∃j,j+n=xs.length/\s=⟨[.sl 1 4 xs.length ((mkL AMp AOA xs k).flatMap Ah),.sc (.int .i64 (k+mcL AMp (xs.take j))),.undef,.sc (.int .i64 j),.undef,.undef,.undef,.undef,.undef],[]⟩) ?_ xs.length _ ⟨0,by simp,by simp[mcL]⟩
 intro n s ⟨j,hj,hs⟩
 subst hs
 by_cases hjn:j<xs.length
 ·have hw:=Cv (j:=j) (by omega)
  have hst:=AQb (mc:=AMp) hjn
  have hle:=ARo (mc:=AMp) (xs:=xs) (j:=j+1)
  have hmc:AMp xs[j]=xs[j].versions.length+xs[j].tags.length+mcL AOw xs[j].path+1:=rfl
  have hY:=ASh (mc:=AMp) (mk:=AOA) xs k j hjn
  generalize hK:k+(mcL AMp (xs.take j):Int)=K at hY⊢
  have hn0:¬K+((xs[j].versions.length:Nat):Int)<0:=by omega
  have hn1:¬K+((xs[j].versions.length:Nat):Int)+((xs[j].tags.length:Nat):Int)<0:=by omega
  have hn2:¬K+((xs[j].versions.length:Nat):Int)+((xs[j].tags.length:Nat):Int)+((mcL AOw xs[j].path:Nat):Int)<0:=by omega
  have hw3:IntKind.i64.wrap (K+((xs[j].versions.length:Nat):Int)+((xs[j].tags.length:Nat):Int)+((mcL AOw xs[j].path:Nat):Int)+1)=K+((xs[j].versions.length:Nat):Int)+((xs[j].tags.length:Nat):Int)+((mcL AOw xs[j].path:Nat):Int)+1:=Ad (by omega) (by omega)
  simp -implicitDefEqProofs [hjn,hY,AOA,hn0,hn1,hn2,hw3]
  refine Aa (hheldIntS xs[j].versions.length _ (by omega) (by omega)) ?_
  simp -implicitDefEqProofs [hjn,hY,AOA,hn0,hn1,hn2,hw3]
  refine Aa (hheldIntS xs[j].tags.length _ (by omega) (by omega)) ?_
  simp -implicitDefEqProofs [hjn,hY,AOA,hn0,hn1,hn2,hw3]
  refine Aa (hheldBoxS xs[j].path _ (by omega) (by omega)) ?_
  simp -implicitDefEqProofs [hjn,hY,AOA,hn0,hn1,hn2,hw3]
  exact⟨n-1,by omega,j+1,by omega,by first | omega | (rw[Ad (by omega) (by omega)];omega),by simp[hw]⟩
 ·have hma:=AQN (mc:=AMp) (xs:=xs) (j:=j) (by omega)
  simp -implicitDefEqProofs [hjn,hma]
end Go.Eng.T
