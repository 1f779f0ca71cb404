/- Own work: part 13 of the proof of FnConsole. -/
import Derived.Test.YtogmkdgkgfhhoaaGreatDoorCEngAL
import Derived.Test.YtogmkdgkgfhhoaaGreatDoorCP11
import Derived.Test.YtogmkdgkgfhhoaaGreatDoorCP12
set_option linter.unusedSimpArgs false
set_option linter.unusedVariables false
namespace Go.Eng.T
set_option maxRecDepth 20000
def ED (w:World) (n:Int):World×Bool:=if NJ n 1 100/\NJ w.now 0 (10000-n)then({w with now:=w.now+n},true)else(w,false)
variable (R:Rel)
abbrev RL:Prop:=∀(w:World) (n:Int),Af w<=4194304->R [arg (Bu w),I n] [] (.tup [.agg (Bu (ED w n).1),B (ED w n).2]) []
variable (D:Dn)
theorem AfW (hC:EF (D 22)) (hI:Vf (D 71)):RL (Body D LV):=by
 intro w n h
 simp -implicitDefEqProofs
 refine Aa (hC w h) ?_
 simp -implicitDefEqProofs
 refine Aa (hI _ _ _) ?_
 by_cases h1:NJ n 1 100
 rotate_left
 ·have e:ED w n=(w,false):=by unfold ED;rw[if_neg (by omega)]
  simp -implicitDefEqProofs [h1,e]
 have hw:IntKind.i64.wrap (10000-n)=10000-n:=Ad (by omega) (by omega)
 simp -implicitDefEqProofs [h1,hw]
 refine Aa (hI _ _ _) ?_
 by_cases h2:NJ w.now 0 (10000-n)
 rotate_left
 ·have e:ED w n=(w,false):=by unfold ED;rw[if_neg (by omega)]
  simp -implicitDefEqProofs [h2,e]
 have hw2:IntKind.i64.wrap (w.now+n)=w.now+n:=Ad (by omega) (by omega)
 have e:ED w n=({w with now:=w.now+n},true):=by unfold ED;rw[if_pos (by omega)]
 simp -implicitDefEqProofs [h2,e,hw2]
theorem AHj (hC:EF (D 38)) (hI:Vf (D 114)):RL (Body D Awo):=by
 intro w n h
 simp -implicitDefEqProofs
 refine Aa (hC w h) ?_
 simp -implicitDefEqProofs
 refine Aa (hI _ _ _) ?_
 by_cases h1:NJ n 1 100
 rotate_left
 ·have e:ED w n=(w,false):=by unfold ED;rw[if_neg (by omega)]
  simp -implicitDefEqProofs [h1,e]
 have hw:IntKind.i64.wrap (10000-n)=10000-n:=Ad (by omega) (by omega)
 by_cases h3:w.now<0
 ·have e:ED w n=(w,false):=by unfold ED;rw[if_neg (by omega)]
  simp -implicitDefEqProofs [h1,hw,h3,e]
 by_cases h2:10000-n<w.now
 ·have e:ED w n=(w,false):=by unfold ED;rw[if_neg (by omega)]
  simp -implicitDefEqProofs [h1,hw,h3,h2,e]
 have hw2:IntKind.i64.wrap (w.now+n)=w.now+n:=Ad (by omega) (by omega)
 have e:ED w n=({w with now:=w.now+n},true):=by unfold ED;rw[if_pos (by omega)]
 simp -implicitDefEqProofs [h1,hw,h3,h2,e,hw2]
def Ob (w:World) (i:Nat):World:=match w.ends[i]? with
 | some x=> {w with ends:=w.ends.set i ⟨x.versions,x.tags,[],x.cls⟩}
 | none=>w
def DX (w:World) (i:Int):World×Bool:=
 if 0<=i then(match w.ends[i.toNat]? with
  | some x=>if x.path=[]then(w,false)else(Ob w i.toNat,true)
  | none=>(w,false))else(w,false)
abbrev Pv:Prop:=∀(w:World) (i:Int),Af w<=4194304->R [arg (Bu w),I i] [] (.tup [.agg (Bu (DX w i).1),B (DX w i).2]) []
theorem Acv {w:World} {i:Int} (h:¬NJ i 0 ((w.ends.length:Int)-1)):DX w i=(w,false):=by
 unfold DX
 by_cases h0:0<=i
 ·rw[if_pos h0,List.getElem?_eq_none (by omega)]
 ·rw[if_neg h0]
theorem Aez (hC:EF (D 22)) (hI:Vf (D 71)):Pv (Body D KD):=by
 intro w i h
 have hl:=FE h
 have hw:IntKind.i64.wrap ((w.ends.length:Int)-1)=(w.ends.length:Int)-1:=Ad (by omega) (by omega)
 simp -implicitDefEqProofs
 refine Aa (hC w h) ?_
 simp -implicitDefEqProofs [hw]
 refine Aa (hI _ _ _) ?_
 by_cases h1:NJ i 0 ((w.ends.length:Int)-1)
 rotate_left
 ·simp -implicitDefEqProofs [h1,Acv h1]
 obtain⟨j,rfl⟩:∃j:Nat,i=j:=⟨i.toNat,by omega⟩
 have hj:j<w.ends.length:=by omega
 by_cases h2:w.ends[j].path=[]
 ·have e:DX w j=(w,false):=by unfold DX;rw[if_pos (by omega)];simp[hj,h2]
  simp -implicitDefEqProofs [h1,h2,hj,e]
 ·have e:DX w j=({w with ends:=w.ends.set j ⟨w.ends[j].versions,w.ends[j].tags,[],w.ends[j].cls⟩},true):=by unfold DX;rw[if_pos (by omega)];simp[hj,h2,Ob]
  have hf:j*4+2<w.ends.length*4:=by omega
  have hs:(w.ends.flatMap Ah).set (j*4+2) (.sl 0 4 0 [])=(w.ends.set j ⟨w.ends[j].versions,w.ends[j].tags,[],w.ends[j].cls⟩).flatMap Ah:=VN hj [] rfl
  simp -implicitDefEqProofs [h1,h2,hj,e,hf,hs]
theorem AFX (hC:EF (D 38)) (hE:Au5 (D 117)):Pv (Body D Avw):=by
 intro w i h
 have hl:=FE h
 simp -implicitDefEqProofs
 refine Aa (hC w h) ?_
 simp -implicitDefEqProofs
 refine Aa (hE w i hl) ?_
 by_cases h1:NJ i 0 ((w.ends.length:Int)-1)
 rotate_left
 ·simp -implicitDefEqProofs [h1,Acv h1]
 obtain⟨j,rfl⟩:∃j:Nat,i=j:=⟨i.toNat,by omega⟩
 have hj:j<w.ends.length:=by omega
 by_cases h2:w.ends[j].path=[]
 ·have e:DX w j=(w,false):=by unfold DX;rw[if_pos (by omega)];simp[hj,h2]
  simp -implicitDefEqProofs [h1,h2,hj,e]
 ·have e:DX w j=({w with ends:=w.ends.set j ⟨w.ends[j].versions,w.ends[j].tags,[],w.ends[j].cls⟩},true):=by unfold DX;rw[if_pos (by omega)];simp[hj,h2,Ob]
  have hf:j*4+2<w.ends.length*4:=by omega
  have hs:(w.ends.flatMap Ah).set (j*4+2) (.sl 0 4 0 [])=(w.ends.set j ⟨w.ends[j].versions,w.ends[j].tags,[],w.ends[j].cls⟩).flatMap Ah:=VN hj [] rfl
  simp -implicitDefEqProofs [h1,h2,hj,e,hf,hs]
theorem AjV {α:Type} {f:α->Nat}:∀ {xs:List α} {j:Nat} (h:j<xs.length) (y:α),((xs.set j y).map f).sum+f xs[j]=(xs.map f).sum+f y
 | [],j,h,_=>by simp at h
 | x::r,0,h,y=>by simp;omega
 | x::r,j+1,h,y=>by
  have:=AjV (f:=f) (xs:=r) (j:=j) (by simpa using h) y
  simp at *
  omega
theorem size_set {α:Type} {f:α->Nat} {xs:List α} {j:Nat} (h:j<xs.length) (y:α):Cr f (xs.set j y)+f xs[j]=Cr f xs+f y:=by
 have:=AjV (f:=f) h y
 unfold Cr;simp only[List.length_set];omega
theorem LU {xs:List Int} {lo hi:Int} {j:Nat} (h:j<xs.length):allIn (xs.take (j+1)) lo hi=(allIn (xs.take j) lo hi&&decide (M6 xs[j] lo hi)):=by
 have e:xs.take (j+1)=xs.take j++ [xs[j]]:=by simp
 unfold allIn
 rw[e,List.all_append];simp
theorem Ahh {xs:List Int} {lo hi:Int} {j:Nat} (h:j<xs.length) (hn:¬M6 xs[j] lo hi):allIn xs lo hi=false:=by
 unfold allIn
 rw[List.all_eq_false]
 exact⟨xs[j],List.getElem_mem h,by simp[hn]⟩
theorem Wt {xs:List Int} {lo hi:Int} {j:Nat} (h:xs.length<=j) (ha:allIn (xs.take j) lo hi=true):allIn xs lo hi=true:=by rwa [List.take_of_length_le h]at ha
abbrev RN:Prop:=∀xs:List Int,xs.length<=maxLen->R [.sl 1 1 xs.length (ints xs)] [] (B (allIn xs 0 255)) []
theorem Am2 (hI:Vf (D 71)):RN (Body D OW):=by
 intro xs hl
 unfold maxLen at hl
 simp -implicitDefEqProofs
 refine Ag (fun k s=>∃j,j+k=xs.length/\allIn (xs.take j) 0 255=true/\s=⟨[.sl 1 1 xs.length (ints xs),.undef,.sc (.int .i64 j),.undef,.undef],[]⟩) ?_ xs.length _ ⟨0,by simp,by simp[allIn],by simp⟩
 intro k s ⟨j,hj,hp,hs⟩
 subst hs
 by_cases hjn:j<xs.length
 ·have hw:=Cv (j:=j) (by omega)
  simp -implicitDefEqProofs [hjn]
  refine Aa (hI _ _ _) ?_
  by_cases h1:M6 xs[j] 0 255
  ·simp -implicitDefEqProofs [h1]
   exact⟨k-1,by omega,j+1,by omega,by rw[LU hjn,hp];simp[h1],by simp[hw]⟩
  ·simp -implicitDefEqProofs [h1,Ahh hjn h1]
 ·simp -implicitDefEqProofs [hjn,Wt (by omega) hp]
def IL (b:EG):Bool:=decide (M6 b.limit 0 9)&&decide (b.drops.length<=6)&&decide (b.strips.length<=6)&&allIn b.drops 0 255&&allIn b.strips 0 255
abbrev XD:Prop:=∀b:EG,Kh b->R [arg (DT b)] [] (B (IL b)) []
theorem AnQ (hI:Vf (D 71)) (hB:RN (D 217)):XD (Body D QE):=by
 intro b hl
 simp -implicitDefEqProofs
 refine Aa (hI _ _ _) ?_
 by_cases h1:M6 b.limit 0 9
 rotate_left
 ·simp -implicitDefEqProofs [h1,IL]
 by_cases h2:b.drops.length<=6
 rotate_left
 ·have h2':¬(b.drops.length:Int)<=6:=by omega
  simp -implicitDefEqProofs [h1,h2',h2,IL]
 have h2':(b.drops.length:Int)<=6:=by omega
 by_cases h3:b.strips.length<=6
 rotate_left
 ·have h3':¬(b.strips.length:Int)<=6:=by omega
  simp -implicitDefEqProofs [h1,h2',h3',h3,IL]
 have h3':(b.strips.length:Int)<=6:=by omega
 simp -implicitDefEqProofs [h1,h2',h3']
 refine Aa (hB _ hl.1) ?_
 by_cases h4:allIn b.drops 0 255=true
 rotate_left
 ·simp -implicitDefEqProofs [h4,IL]
 simp -implicitDefEqProofs [h4]
 refine Aa (hB _ hl.2) ?_
 simp -implicitDefEqProofs [IL,h1,h2,h3,h4]
theorem AJ4 (hI:Vf (D 114)) (hB:AsS (D 233)):XD (Body D Ayb):=by
 intro b hl
 simp -implicitDefEqProofs
 refine Aa (hI _ _ _) ?_
 by_cases h1:M6 b.limit 0 9
 rotate_left
 ·simp -implicitDefEqProofs [h1,IL]
 by_cases h2:b.drops.length<=6
 rotate_left
 ·have h2':¬(b.drops.length:Int)<=6:=by omega
  simp -implicitDefEqProofs [h1,h2',h2,IL]
 have h2':(b.drops.length:Int)<=6:=by omega
 by_cases h3:b.strips.length<=6
 rotate_left
 ·have h3':¬(b.strips.length:Int)<=6:=by omega
  simp -implicitDefEqProofs [h1,h2',h3',h3,IL]
 have h3':(b.strips.length:Int)<=6:=by omega
 simp -implicitDefEqProofs [h1,h2',h3']
 refine Aa (hB _ _ _ hl.1) ?_
 by_cases h4:allIn b.drops 0 255=true
 rotate_left
 ·simp -implicitDefEqProofs [h4,IL]
 simp -implicitDefEqProofs [h4]
 refine Aa (hB _ _ _ hl.2) ?_
 simp -implicitDefEqProofs [IL,h1,h2,h3,h4]
def Fg (w:World) (i:Int) (b:EG):World×Bool:=
 if 0<=i then(match w.ends[i.toNat]? with
  | some x=>if IL b=true/\x.path.length<4 then({w with ends:=w.ends.set i.toNat ⟨x.versions,x.tags,x.path++ [b],x.cls⟩},true)else(w,false)
  | none=>(w,false))else(w,false)
abbrev UJ:Prop:=∀(w:World) (i:Int) (b:EG),Af w<=4194304->Gm b<=4194304->R [arg (Bu w),I i,arg (DT b)] [] (.tup [.agg (Bu (Fg w i b).1),B (Fg w i b).2]) []
theorem Ahl {w:World} {i:Int} {b:EG} (h:¬NJ i 0 ((w.ends.length:Int)-1)):Fg w i b=(w,false):=by
 unfold Fg
 by_cases h0:0<=i
 ·rw[if_pos h0,List.getElem?_eq_none (by omega)]
 ·rw[if_neg h0]
theorem AmP {b:EG} (h:Gm b<=4194304):Kh b:=by unfold Gm at h;unfold Kh Nr maxLen;omega
theorem AiB (hC:EF (D 22)) (hI:Vf (D 71)) (hB:XD (D 152)):UJ (Body D Ni):=by
 intro w i b h hb
 have hl:=FE h
 have hw:IntKind.i64.wrap ((w.ends.length:Int)-1)=(w.ends.length:Int)-1:=Ad (by omega) (by omega)
 simp -implicitDefEqProofs
 refine Aa (hC w h) ?_
 simp -implicitDefEqProofs [hw]
 refine Aa (hI _ _ _) ?_
 by_cases h1:NJ i 0 ((w.ends.length:Int)-1)
 rotate_left
 ·simp -implicitDefEqProofs [h1,Ahl h1]
 obtain⟨j,rfl⟩:∃j:Nat,i=j:=⟨i.toNat,by omega⟩
 have hj:j<w.ends.length:=by omega
 simp -implicitDefEqProofs [h1]
 refine Aa (hB b (AmP hb)) ?_
 by_cases h2:IL b=true
 rotate_left
 ·have e:Fg w j b=(w,false):=by unfold Fg;rw[if_pos (by omega)];simp[hj,h2]
  simp -implicitDefEqProofs [h2,e]
 by_cases h3:w.ends[j].path.length<4
 rotate_left
 ·have e:Fg w j b=(w,false):=by unfold Fg;rw[if_pos (by omega)];simp[hj,h3]
  have h3':(4:Int)<=w.ends[j].path.length:=by omega
  simp -implicitDefEqProofs [h2,hj,h3',e]
 have e:Fg w j b=({w with ends:=w.ends.set j ⟨w.ends[j].versions,w.ends[j].tags,w.ends[j].path++ [b],w.ends[j].cls⟩},true):=by unfold Fg;rw[if_pos (by omega)];simp[hj,h2,h3]
 have h3':¬(4:Int)<=w.ends[j].path.length:=by omega
 have hz:Gm b=b.drops.length+b.strips.length:=rfl
 have b1:b.drops.length*8<=1099511627776:=by omega
 have b2:b.strips.length*8<=1099511627776:=by omega
 have b3:(w.ends[j].path.length+1)*64<=1099511627776:=by omega
 have hf:j*4+2<w.ends.length*4:=by omega
 simp -implicitDefEqProofs [h2,hj,h3',e,hf,b1,b2,b3]
 have hs:=VN hj (w.ends[j].path++ [b]) (n:=w.ends[j].path.length+1) (by simp)
 simpa[List.flatMap_append]using hs
theorem AHZ (hC:EF (D 38)) (hE:Au5 (D 117)) (hB:XD (D 183)) (hP:AAf (D 172)):UJ (Body D Aw0):=by
 intro w i b h hb
 have hl:=FE h
 simp -implicitDefEqProofs
 refine Aa (hC w h) ?_
 simp -implicitDefEqProofs
 refine Aa (hE w i hl) ?_
 by_cases h1:NJ i 0 ((w.ends.length:Int)-1)
 rotate_left
 ·simp -implicitDefEqProofs [h1,Ahl h1]
 obtain⟨j,rfl⟩:∃j:Nat,i=j:=⟨i.toNat,by omega⟩
 have hj:j<w.ends.length:=by omega
 simp -implicitDefEqProofs [h1]
 refine Aa (hB b (AmP hb)) ?_
 by_cases h2:IL b=true
 rotate_left
 ·have e:Fg w j b=(w,false):=by unfold Fg;rw[if_pos (by omega)];simp[hj,h2]
  simp -implicitDefEqProofs [h2,e]
 by_cases h3:w.ends[j].path.length<4
 rotate_left
 ·have e:Fg w j b=(w,false):=by unfold Fg;rw[if_pos (by omega)];simp[hj,h3]
  have h3':(4:Int)<=w.ends[j].path.length:=by omega
  simp -implicitDefEqProofs [h2,hj,h3',e]
 have e:Fg w j b=({w with ends:=w.ends.set j ⟨w.ends[j].versions,w.ends[j].tags,w.ends[j].path++ [b],w.ends[j].cls⟩},true):=by unfold Fg;rw[if_pos (by omega)];simp[hj,h2,h3]
 have h3':¬(4:Int)<=w.ends[j].path.length:=by omega
 have hz:Gm b=b.drops.length+b.strips.length:=rfl
 have b3:(w.ends[j].path.length+1)*64<=1099511627776:=by omega
 have hf:j*4+2<w.ends.length*4:=by omega
 simp -implicitDefEqProofs [h2,hj,h3',e,hf]
 have hb6:Gm b<=12:=by
  have:=h2
  simp only[IL,Bool.and_eq_true,decide_eq_true_eq]at this
  unfold Gm;omega
 refine Aa (hP [b] (by unfold Cr;simp;omega)) ?_
 simp -implicitDefEqProofs [h2,hj,h3',e,hf,b3]
 have hs:=VN hj (w.ends[j].path++ [b]) (n:=w.ends[j].path.length+1) (by simp)
 simpa[List.flatMap_append]using hs
abbrev As8 (D:Dn) (R:Rel):Prop:=∀(xs:List Ai) (g:Nat) (caps:List V) (p:Ai->Bool),xs.length<=maxLen->Atz caps->(∀(j:Nat) (h:j<xs.length),D g (arg (Ah xs[j])::caps) [] (B (p xs[j])) [])->R [.sl 1 4 xs.length (xs.flatMap Ah),.fn g caps] [] (I (Rc p xs 0)) []
theorem Azb:As8 D (Body D Aft):=by
 intro xs g caps p hl hc hp
 unfold maxLen at hl
 simp -implicitDefEqProofs
 refine Ag (fun k s=>∃j,j+k=xs.length/\Rc p xs 0=Rc p (xs.drop j) j/\s=⟨[.sl 1 4 xs.length (xs.flatMap Ah),.fn g caps,.undef,.undef,.sc (.int .i64 xs.length),.sc (.int .i64 j),.undef,.undef],[]⟩) ?_ xs.length _ ⟨0,by simp,by simp,by simp⟩
 intro k s ⟨j,hj,hi,hs⟩
 subst hs
 by_cases hjn:j<xs.length
 ·have hw:=Cv (j:=j) (by omega)
  rw[AkE hjn]at hi
  simp -implicitDefEqProofs [hjn,hc.1,hc.2.1]
  refine Aa (hp j hjn) ?_
  by_cases he:p xs[j]=true
  ·rw[if_pos he]at hi
   simp -implicitDefEqProofs [he,hi]
  ·rw[if_neg he]at hi
   simp -implicitDefEqProofs [he]
   exact⟨k-1,by omega,j+1,by omega,by simpa using hi,by simp[hw]⟩
 ·rw[Am6 (by omega)]at hi
  simp -implicitDefEqProofs [hjn,hi]
abbrev AsI (D:Dn) (R:Rel):Prop:=∀(xs:List Ai) (g:Nat) (caps:List V) (p:Ai->Bool),xs.length<=maxLen->Atz caps->(∀(j:Nat) (h:j<xs.length),D g (arg (Ah xs[j])::caps) [] (B (p xs[j])) [])->R [.sl 1 4 xs.length (xs.flatMap Ah),.fn g caps] [] (B (xs.any p)) []
theorem AxD (hI:As8 D (D 393)):AsI D (Body D Afs):=by
 intro xs g caps p hl hc hp
 simp -implicitDefEqProofs [hc.2.2]
 refine Aa (hI xs g caps p hl hc hp) ?_
 have e:decide (0<=Rc p xs 0)=xs.any p:=by rw[Bool.eq_iff_iff];simp only[decide_eq_true_eq];rw[AjA (by omega)]
 simp -implicitDefEqProofs [e]
abbrev Att (D:Dn) (R:Rel):Prop:=∀(xs:List Eo) (g:Nat) (caps:List V) (p:Eo->Bool),xs.length<=maxLen->Atz caps->(∀(j:Nat) (h:j<xs.length),D g (arg (Az xs[j])::caps) [] (B (p xs[j])) [])->R [.sl 1 8 xs.length (xs.flatMap Az),.fn g caps] [] (I (Rc p xs 0)) []
theorem AAt:Att D (Body D Ajb):=by
 intro xs g caps p hl hc hp
 unfold maxLen at hl
 simp -implicitDefEqProofs
 refine Ag (fun k s=>∃j,j+k=xs.length/\Rc p xs 0=Rc p (xs.drop j) j/\s=⟨[.sl 1 8 xs.length (xs.flatMap Az),.fn g caps,.undef,.undef,.sc (.int .i64 xs.length),.sc (.int .i64 j),.undef,.undef],[]⟩) ?_ xs.length _ ⟨0,by simp,by simp,by simp⟩
 intro k s ⟨j,hj,hi,hs⟩
 subst hs
 by_cases hjn:j<xs.length
 ·have hw:=Cv (j:=j) (by omega)
  rw[AkE hjn]at hi
  simp -implicitDefEqProofs [hjn,hc.1,hc.2.1]
  refine Aa (hp j hjn) ?_
  by_cases he:p xs[j]=true
  ·rw[if_pos he]at hi
   simp -implicitDefEqProofs [he,hi]
  ·rw[if_neg he]at hi
   simp -implicitDefEqProofs [he]
   exact⟨k-1,by omega,j+1,by omega,by simpa using hi,by simp[hw]⟩
 ·rw[Am6 (by omega)]at hi
  simp -implicitDefEqProofs [hjn,hi]
abbrev As0 (D:Dn) (R:Rel):Prop:=∀(xs:List Eo) (g:Nat) (caps:List V) (p:Eo->Bool),xs.length<=maxLen->Atz caps->(∀(j:Nat) (h:j<xs.length),D g (arg (Az xs[j])::caps) [] (B (p xs[j])) [])->R [.sl 1 8 xs.length (xs.flatMap Az),.fn g caps] [] (B (xs.any p)) []
theorem Ayd (hI:Att D (D 403)):As0 D (Body D Afv):=by
 intro xs g caps p hl hc hp
 simp -implicitDefEqProofs [hc.2.2]
 refine Aa (hI xs g caps p hl hc hp) ?_
 have e:decide (0<=Rc p xs 0)=xs.any p:=by rw[Bool.eq_iff_iff];simp only[decide_eq_true_eq];rw[AjA (by omega)]
 simp -implicitDefEqProofs [e]
abbrev Au4 (D:Dn) (R:Rel):Prop:=∀(xs:List EG) (g:Nat) (caps:List V) (p:EG->Bool),xs.length<=maxLen->Atz caps->(∀(j:Nat) (h:j<xs.length),D g (arg (DT xs[j])::caps) [] (B (p xs[j])) [])->R [.sl 1 4 xs.length (xs.flatMap DT),.fn g caps] [] (I (Rc p xs 0)) []
theorem ADz:Au4 D (Body D AlU):=by
 intro xs g caps p hl hc hp
 unfold maxLen at hl
 simp -implicitDefEqProofs
 refine Ag (fun k s=>∃j,j+k=xs.length/\Rc p xs 0=Rc p (xs.drop j) j/\s=⟨[.sl 1 4 xs.length (xs.flatMap DT),.fn g caps,.undef,.undef,.sc (.int .i64 xs.length),.sc (.int .i64 j),.undef,.undef],[]⟩) ?_ xs.length _ ⟨0,by simp,by simp,by simp⟩
 intro k s ⟨j,hj,hi,hs⟩
 subst hs
 by_cases hjn:j<xs.length
 ·have hw:=Cv (j:=j) (by omega)
  rw[AkE hjn]at hi
  simp -implicitDefEqProofs [hjn,hc.1,hc.2.1]
  refine Aa (hp j hjn) ?_
  by_cases he:p xs[j]=true
  ·rw[if_pos he]at hi
   simp -implicitDefEqProofs [he,hi]
  ·rw[if_neg he]at hi
   simp -implicitDefEqProofs [he]
   exact⟨k-1,by omega,j+1,by omega,by simpa using hi,by simp[hw]⟩
 ·rw[Am6 (by omega)]at hi
  simp -implicitDefEqProofs [hjn,hi]
abbrev As3 (D:Dn) (R:Rel):Prop:=∀(xs:List EG) (g:Nat) (caps:List V) (p:EG->Bool),xs.length<=maxLen->Atz caps->(∀(j:Nat) (h:j<xs.length),D g (arg (DT xs[j])::caps) [] (B (p xs[j])) [])->R [.sl 1 4 xs.length (xs.flatMap DT),.fn g caps] [] (B (xs.any p)) []
theorem AAs (hI:Au4 D (D 406)):As3 D (Body D AjG):=by
 intro xs g caps p hl hc hp
 simp -implicitDefEqProofs [hc.2.2]
 refine Aa (hI xs g caps p hl hc hp) ?_
 have e:decide (0<=Rc p xs 0)=xs.any p:=by rw[Bool.eq_iff_iff];simp only[decide_eq_true_eq];rw[AjA (by omega)]
 simp -implicitDefEqProofs [e]
theorem ALp {xs:List Eo} {j:Nat} (h:j<xs.length):xs[j].dialed.up.length<=Cr Ip xs:=by
 have:=size_at (f:=Ip) h
 simp only[Ip,Cb]at this⊢
 omega
theorem AG4 {w:World} (h:Af w<=4194304) {j:Nat} (hj:j<w.log.length):w.log[j].dialed.up.length<=maxLen:=by
 have:=ALp hj
 unfold Af at h
 unfold maxLen;omega
def Avc (w:World) (l:Eo):Bool:=l.on&&Lj w.rollout.version l.dialed
abbrev AGT:Prop:=∀(w:World) (l:Eo),l.dialed.up.length<=maxLen->R [arg (Bu w),arg (Az l)] [] (B (Avc w l)) []
theorem AJI (hB:PN (D 175)):AGT (Body D Axw):=by
 intro w l hl
 by_cases h:l.on=true
 ·simp -implicitDefEqProofs [h]
  refine Aa (hB l.dialed _ hl) ?_
  simp -implicitDefEqProofs [Avc,h]
 ·simp -implicitDefEqProofs [h,Avc]
abbrev AxG:Prop:=∀(w:World),Af w<=4194304->R [arg (Bu w)] [] (B (decide (w.hurt=cntF (Avc w) w.log))) []
theorem AGi (hB:AGT (D 196)):AxG (Body D Avz):=by
 intro w hsz
 have hl:=Akl hsz
 simp -implicitDefEqProofs
 refine Ag (fun k s=>∃j o,j+k=w.log.length/\s=⟨[.undef,.ptr 0 0,.undef,.sc (.int .i64 (cntF (Avc w) (w.log.take j))),.undef,.sl 1 8 w.log.length (w.log.flatMap Az),.sc (.int .i64 w.log.length),.sc (.int .i64 j),.undef,.undef],[.var ((Bu w).map (AO 1)),o]⟩) ?_ w.log.length _ ⟨0,.free,by simp,by simp[cntF]⟩
 intro k s ⟨j,o,hj,hs⟩
 subst hs
 by_cases hjn:j<w.log.length
 ·have hw:=Cv (j:=j) (by omega)
  have hc:=AaP (f:=Avc w) hjn
  have hcl:=Afa (f:=Avc w) (xs:=w.log) (j:=j) (by omega)
  have hw2:IntKind.i64.wrap ((cntF (Avc w) (w.log.take j):Int)+1)=(cntF (Avc w) (w.log.take j)+1:Nat):=by rw[Ad (by omega) (by omega)];simp
  simp -implicitDefEqProofs [hjn]
  refine Aa (hB w w.log[j] (AG4 hsz hjn)) ?_
  by_cases he:Avc w w.log[j]=true
  ·simp -implicitDefEqProofs [he]
   exact⟨k-1,by omega,j+1,by omega,by rw[hc,hw2];simp[he],by simp[hw]⟩
  ·simp -implicitDefEqProofs [he]
   exact⟨k-1,by omega,j+1,by omega,by rw[hc];simp[he],by simp[hw]⟩
 ·have hx:=Afj (f:=Avc w) (xs:=w.log) (j:=j) (by omega)
  simp -implicitDefEqProofs [hjn,hx,Aqs]
def BH (t:Int):Bool:=decide (M6 t 0 255)&&decide (t.tmod 16=10)
abbrev Ib:Prop:=∀t:Int,R [I t] [] (B (BH t)) []
theorem Ach (hI:Vf (D 71)):Ib (Body D Jh):=by
 intro t
 simp -implicitDefEqProofs
 refine Aa (hI _ _ _) ?_
 by_cases h:M6 t 0 255
 ·simp -implicitDefEqProofs [h,BH,Aqs]
 ·simp -implicitDefEqProofs [h,BH]
theorem AEB (hI:Vf (D 114)):Ib (Body D AuA):=by
 intro t
 simp -implicitDefEqProofs
 refine Aa (hI _ _ _) ?_
 by_cases h:M6 t 0 255
 ·simp -implicitDefEqProofs [h,BH,Aqs]
 ·simp -implicitDefEqProofs [h,BH]
abbrev At7:Prop:=∀xs:List Int,xs.length<=maxLen->R [.sl 1 1 xs.length (ints xs)] [] (B (xs.any BH)) []
theorem QR {α:Type} {p:α->Bool} {xs:List α} {j:Nat} (h:j<xs.length) (hp:p xs[j]=true):xs.any p=true:=List.any_eq_true.2 ⟨_,List.getElem_mem h,hp⟩
theorem Abh {α:Type} {p:α->Bool} {xs:List α} {j:Nat} (h:j<xs.length):(xs.take (j+1)).any p=((xs.take j).any p||p xs[j]):=by
 have e:xs.take (j+1)=xs.take j++ [xs[j]]:=by simp
 rw[e,List.any_append];simp
theorem any_none {α:Type} {p:α->Bool} {xs:List α} {j:Nat} (h:xs.length<=j) (ha:(xs.take j).any p=false):xs.any p=false:=by rwa [List.take_of_length_le h]at ha
theorem AES (hR:Ib (D 279)) (hC:Ate D (D 267)):At7 (Body D AuF):=by
 intro xs hl
 simp -implicitDefEqProofs
 refine Aa (hC xs 279 _ BH hl Api (fun x=>hR x)) ?_
 generalize xs.any BH=b
 simp -implicitDefEqProofs
def Ayi (l:Eo):Bool:=l.dialed.deal.ok&&(l.dialed.deal.tags.any BH|| !decide (M6 l.dialed.deal.version 1 9))
abbrev AAr:Prop:=∀w:World,Af w<=4194304->R [arg (Bu w)] [] (B (!w.log.any Ayi)) []
theorem AG9 {w:World} (h:Af w<=4194304) {j:Nat} (hj:j<w.log.length):w.log[j].dialed.deal.tags.length<=maxLen:=by
 have:=size_at (f:=Ip) hj
 have e:Ip w.log[j]=w.log[j].dialed.deal.tags.length+w.log[j].dialed.up.length:=rfl
 unfold Af at h
 unfold maxLen;omega
abbrev AyV:Prop:=∀l:Eo,l.dialed.deal.tags.length<=maxLen->R [arg (Az l)] [] (B (Ayi l)) []
theorem AId (hH:At7 (D 270)) (hI:Vf (D 114)):AyV (Body D Avr):=by
 intro l hl
 by_cases h1:l.dialed.deal.ok=true
 rotate_left
 ·simp -implicitDefEqProofs [h1,Ayi]
 simp -implicitDefEqProofs [h1]
 refine Aa (hH _ hl) ?_
 unfold Ayi
 rw[h1]
 generalize l.dialed.deal.tags.any BH=c
 cases c
 rotate_left
 ·simp -implicitDefEqProofs
 simp -implicitDefEqProofs
 refine Aa (hI _ _ _) ?_
 simp -implicitDefEqProofs
theorem AIu (h1:AyV (D 247)) (hC:As0 D (D 248)):AAr (Body D AwX):=by
 intro w hsz
 simp -implicitDefEqProofs
 refine Aa (hC w.log 247 _ Ayi (by have:=Akl hsz;unfold maxLen;omega) Api (fun j hj=>h1 _ (AG9 hsz hj))) ?_
 generalize w.log.any Ayi=b
 simp -implicitDefEqProofs
set_option maxRecDepth 100000
def Aup:=mk 0xc208000402218 0xc020202ec03420110101 [0x188400002804480802,0x3204400200042423c08000201b020,0x100031a105a1c422443014825080bc8621910086040e006039824cd0106404a108120180e50cc9101000404000040e8860203546,0x2044000861108280001040c62,0x84002102300200021231e4084221a441041482,634167071344800,0x102000861108380001040cc2]
def Aze:=dT 69932027928
def Aun:=mk 0x7b4485a40004312d 0x601010702920101218815c948405006022ec03820110101 [0x40008801100000000852880000100088008200088443d22c0818802,0xa420c41290b4950c2840c4242d21410807a625212908004400409564242120000000214a20000040022002080022110f485600110404004089798a4188c731483118e629062300049918004227a22121,0x18c1140e6093300265904a4001010000102c21a0c05c44,0x4184600000084f4cc4f44862,0x30851c40020101c0058c4b080,0x4a4e2429c84a0,5211685150525632,0x50a480802000607243603a00b18968820c058e0,0xa1005a528014c105a53061686a10c0000c42820440420a2d2941694a0a4852084a039a1809484a0400041296c105b04702da0000c0504094204140051000848c02003189400a20010900040063129e90b,0x4212000102214044128,0x21e409000004242d2145021086000e58948485a428a258086000a58940080421b8004098008025220080088250008002001c9129494b,0x61000000427a6627a2416a]
def Ay3:=dT 0x384240b484210802d
def Avt:=mk 8864812538921 0x30080838129008090c40ae4242028030110101 [0x1004000021089000818802,0xc11100461000000211a822,0xce2304a30010080e0025a44b040,0x8498789c8460,0x41110210404262200088002200000850b00422e344855082,0x412900400080c4870484444f44ca0,0x204c41120c45184800600042483d01084634804104ac418c2,0x270800040b88088e0,0x1cc509000000012062c3620410a,0xc200084108028401206343620612a]
def AAH:=dT 0x284211882108029
def At1:=mk 35459388416408 0xc02ec0342011021815e0402280310101 [4573968443376642,208306439200,0x5b020a2920270928421c9848830f00e1c1408ac2c4184080c004000e4101c0406203144,0x43084004080008c40c60,0x5b420a292027092842149848830f00e1c1408ac2c4184080c004000e4101c0406203184,0x1840300022080000408a2,0x6100c002882400208c24002c108868084211a440c400418c2]
def Ayz:=dT 491275030552
attribute [simp] Aup Aun Avt At1
abbrev AtN (D:Dn) (R:Rel):Prop:=∀(xs:List Ext) (g:Nat) (caps:List V) (p:Ext->Bool),xs.length<=maxLen->Atz caps->(∀(j:Nat) (h:j<xs.length),D g (arg (Cc xs[j])::caps) [] (B (p xs[j])) [])->R [.sl 1 2 xs.length (xs.flatMap Cc),.fn g caps] [] (I (Rc p xs 0)) []
theorem AD7:AtN D (Body D AlL):=by
 intro xs g caps p hl hc hp
 unfold maxLen at hl
 simp -implicitDefEqProofs
 refine Ag (fun k s=>∃j,j+k=xs.length/\Rc p xs 0=Rc p (xs.drop j) j/\s=⟨[.sl 1 2 xs.length (xs.flatMap Cc),.fn g caps,.undef,.undef,.sc (.int .i64 xs.length),.sc (.int .i64 j),.undef,.undef],[]⟩) ?_ xs.length _ ⟨0,by simp,by simp,by simp⟩
 intro k s ⟨j,hj,hi,hs⟩
 subst hs
 by_cases hjn:j<xs.length
 ·have hw:=Cv (j:=j) (by omega)
  rw[AkE hjn]at hi
  simp -implicitDefEqProofs [hjn,hc.1,hc.2.1]
  refine Aa (hp j hjn) ?_
  by_cases he:p xs[j]=true
  ·rw[if_pos he]at hi
   simp -implicitDefEqProofs [he,hi]
  ·rw[if_neg he]at hi
   simp -implicitDefEqProofs [he]
   exact⟨k-1,by omega,j+1,by omega,by simpa using hi,by simp[hw]⟩
 ·rw[Am6 (by omega)]at hi
  simp -implicitDefEqProofs [hjn,hi]
abbrev Atu (D:Dn) (R:Rel):Prop:=∀(xs:List Ext) (g:Nat) (caps:List V) (p:Ext->Bool),xs.length<=maxLen->Atz caps->(∀(j:Nat) (h:j<xs.length),D g (arg (Cc xs[j])::caps) [] (B (p xs[j])) [])->R [.sl 1 2 xs.length (xs.flatMap Cc),.fn g caps] [] (B (xs.any p)) []
theorem AAJ (hI:AtN D (D 352)):Atu D (Body D Ajk):=by
 intro xs g caps p hl hc hp
 simp -implicitDefEqProofs [hc.2.2]
 refine Aa (hI xs g caps p hl hc hp) ?_
 have e:decide (0<=Rc p xs 0)=xs.any p:=by rw[Bool.eq_iff_iff];simp only[decide_eq_true_eq];rw[AjA (by omega)]
 simp -implicitDefEqProofs [e]
def Gq (t:Int) (x:Ext):Bool:=decide (x.tag=t)
def K7 (l:List Ext) (t:Int):Int:=Rc (Gq t) l 0
abbrev Rj:Prop:=∀(l:List Ext) (t:Int),l.length<=maxLen->R [.sl 1 2 l.length (l.flatMap Cc),I t] [] (I (K7 l t)) []
theorem Amt:Rj (Body D Qt):=by
 intro l t hl
 unfold maxLen at hl
 have hres:K7 l t=Rc (Gq t) l 0:=rfl
 rw[hres]
 simp -implicitDefEqProofs
 refine Ag (fun k s=>∃j,j+k=l.length/\Rc (Gq t) l 0=Rc (Gq t) (l.drop j) j/\s=⟨[.sl 1 2 l.length (l.flatMap Cc),I t,.undef,I j,.undef,.undef],[]⟩) ?_ (l.length) _ ⟨0,by simp,by simp,by simp⟩
 intro k s ⟨j,hj,hi,hs⟩
 subst hs
 by_cases hjn:j<l.length
 ·have hw:=Cv (j:=j) (by omega)
  rw[AkE hjn]at hi
  by_cases he:l[j].tag=t
  ·rw[if_pos (by simp[Gq,he])]at hi
   simp -implicitDefEqProofs [hjn,he,hi]
  ·rw[if_neg (by simp[Gq,he])]at hi
   simp -implicitDefEqProofs [hjn,he]
   exact⟨k-1,by omega,j+1,by omega,by simpa using hi,by simp[hw]⟩
 ·rw[Am6 (by omega)]at hi
  simp -implicitDefEqProofs [hjn,hi]
abbrev AC5:Prop:=∀(x:Ext) (t:Int),R [arg (Cc x),.rptr 1 [I t] 0] [] (B (Gq t x)) []
theorem AJW:AC5 (Body D AwN):=by
 intro x t
 simp -implicitDefEqProofs [Gq,Aqs]
theorem AKa (h1:AC5 (D 351)) (hX:AtN D (D 352)):Rj (Body D AyJ):=by
 intro l t hl
 have hres:K7 l t=Rc (Gq t) l 0:=rfl
 rw[hres]
 simp -implicitDefEqProofs
 refine Aa (hX l 351 _ (Gq t) hl (ABB Api) (fun j h=>h1 l[j] t)) ?_
 simp -implicitDefEqProofs
def SY (x:Ext):Bool:=decide (M6 x.tag 0 255)&&(decide (x.body.length<=4)&&allIn x.body 0 255)
def Qo (l:List Ext) (i:Nat):Bool:=match l[i]? with
 | some x=>SY x&& !(l.take i).any (Gq x.tag)
 | none=>true
theorem Oo {l:List Ext} {i:Nat} (h:i<l.length):Qo l i=(SY l[i]&& !(l.take i).any (Gq l[i].tag)):=by
 unfold Qo
 rw[List.getElem?_eq_getElem h]
def Ej (l:List Ext):Bool:=Oj (Qo l) l.length&&decide (l.length<=6)
theorem AjL {α:Type} {p:α->Bool}:∀ {xs:List α} {i:Int} {j:Nat},0<=i->(h:j<xs.length)->p xs[j]=true->(Rc p xs i<i+j↔(xs.take j).any p=true)
 | x::r,i,0,hi,h,hp=>by
  have:p x=true:=hp
  simp[Rc,this]
 | x::r,i,j+1,hi,h,hp=>by
  by_cases hx:p x=true
  ·simp[Rc,hx];omega
  ·have:=AjL (p:=p) (xs:=r) (i:=i+1) (j:=j) (by omega) (by simpa using h) (by simpa using hp)
   simp only[Rc,hx,List.take_succ_cons,List.any_cons,Bool.false_or]
   rw[<-this]
   simp
   omega
theorem Af9 {l:List Ext} {j:Nat} (h:j<l.length):(K7 l l[j].tag<(j:Int))=((l.take j).any (Gq l[j].tag)=true):=by
 have:=AjL (p:=Gq l[j].tag) (i:=0) (by omega) h (by simp[Gq])
 rw[Int.zero_add]at this
 exact propext this
theorem ADT {l:List Ext} {j:Nat} {t:Int}:(0<=K7 (l.take j) t)=((l.take j).any (Gq t)=true):=AjA (by omega)
theorem PZ {l:List Ext} {j:Nat} (h:j<l.length) (hn:Qo l j=false):Ej l=false:=by
 unfold Ej
 rw[AhE h hn];rfl
abbrev JX:Prop:=∀l:List Ext,OD l->R [.sl 1 2 l.length (l.flatMap Cc)] [] (B (Ej l)) []
theorem Ai0 (hI:Vf (D 71)) (hB:RN (D 217)) (hX:Rj (D 309)):JX (Body D Nu):=by
 intro l hl
 have hll:=hl.1
 simp -implicitDefEqProofs
 refine Ag (fun k s=>∃j,j+k=l.length/\Oj (Qo l) j=true/\s=⟨[.sl 1 2 l.length (l.flatMap Cc),.undef,I j,.undef,.undef],[]⟩) ?_ (l.length) _ ⟨0,by simp,by simp,by simp⟩
 intro k s ⟨j,hj,hr,hs⟩
 subst hs
 by_cases hjn:j<l.length
 ·have hw:=Cv (j:=j) (by omega)
  have hst:=LY (Qo l) j
  have hq:=Oo hjn
  have hb:=P5 hl hjn
  rw[hr,Bool.true_and]at hst
  simp -implicitDefEqProofs [hjn]
  refine Aa (hI _ _ _) ?_
  by_cases h1:M6 l[j].tag 0 255
  rotate_left
  ·have e:=PZ hjn (by rw[hq];simp[SY,h1])
   simp -implicitDefEqProofs [h1,e]
  by_cases h2:l[j].body.length<=4
  rotate_left
  ·have e:=PZ hjn (by rw[hq];simp[SY,h2])
   have h2':(4:Int)<l[j].body.length:=by omega
   simp -implicitDefEqProofs [hjn,h1,h2',e]
  have h2':¬(4:Int)<l[j].body.length:=by omega
  simp -implicitDefEqProofs [hjn,h1,h2']
  refine Aa (hB _ (by unfold maxLen;omega)) ?_
  by_cases h3:allIn l[j].body 0 255=true
  rotate_left
  ·have e:=PZ hjn (by rw[hq];simp[SY,h3])
   simp -implicitDefEqProofs [hjn,h3,e]
  simp -implicitDefEqProofs [hjn,h3]
  refine Aa (hX l _ (by unfold maxLen;omega)) ?_
  by_cases h4:(l.take j).any (Gq l[j].tag)=true
  ·have e:=PZ hjn (by rw[hq];simp only[h4];simp)
   have h4':K7 l l[j].tag<(j:Int):=by rw[Af9 hjn];exact h4
   simp -implicitDefEqProofs [hjn,h4',e]
  ·have h4':¬K7 l l[j].tag<(j:Int):=by rw[Af9 hjn];exact h4
   have h4f:(l.take j).any (Gq l[j].tag)=false:=by simpa using h4
   simp -implicitDefEqProofs [hjn,h4']
   exact⟨k-1,by omega,j+1,by omega,by rw[hst,hq,h4f];simp[SY,h1,h2,h3],by simp[hw]⟩
 ·obtain rfl:j=l.length:=by omega
  have e:Ej l=decide (l.length<=6):=by unfold Ej;rw[hr];rfl
  by_cases h5:l.length<=6
  ·have h5':(l.length:Int)<=6:=by omega
   simp -implicitDefEqProofs [e,h5,h5']
  ·have h5':¬(l.length:Int)<=6:=by omega
   simp -implicitDefEqProofs [e,h5,h5']
theorem AHW (hI:Vf (D 114)) (hX:Rj (D 321)) (hN:AsS (D 233)):JX (Body D AwF):=by
 intro l hl
 have hll:=hl.1
 simp -implicitDefEqProofs
 refine Ag (fun k s=>∃j o0,j+k=l.length/\Oj (Qo l) j=true/\s=⟨[.sl 1 2 l.length (l.flatMap Cc),.undef,.undef,.undef,.sl 1 2 l.length (l.flatMap Cc),I l.length,I j,.undef,.undef],[o0]⟩) ?_ (l.length) _ ⟨0,.free,by simp,by simp,by simp⟩
 intro k s ⟨j,o0,hj,hr,hs⟩
 subst hs
 by_cases hjn:j<l.length
 ·have hw:=Cv (j:=j) (by omega)
  have hst:=LY (Qo l) j
  have hq:=Oo hjn
  have hb:=P5 hl hjn
  rw[hr,Bool.true_and]at hst
  simp -implicitDefEqProofs [hjn]
  refine Aa (hI _ _ _) ?_
  by_cases h1:M6 l[j].tag 0 255
  rotate_left
  ·have e:=PZ hjn (by rw[hq];simp[SY,h1])
   simp -implicitDefEqProofs [h1,e]
  have hjl:j<=l.length:=by omega
  have hmin:min j l.length=j:=by omega
  simp -implicitDefEqProofs [hjn,hjl,hmin,h1]
  have hxx:=hX (l.take j) l[j].tag (by simp;unfold maxLen;omega)
  rw[List.length_take,hmin]at hxx
  refine Aa (hxx) ?_
  by_cases h4:(l.take j).any (Gq l[j].tag)=true
  ·have e:=PZ hjn (by rw[hq];simp only[h4];simp)
   have h4':0<=K7 (l.take j) l[j].tag:=by rw[ADT];exact h4
   simp -implicitDefEqProofs [hjn,h4',e]
  have h4':¬0<=K7 (l.take j) l[j].tag:=by rw[ADT];exact h4
  have h4f:(l.take j).any (Gq l[j].tag)=false:=by simpa using h4
  by_cases h2:l[j].body.length<=4
  rotate_left
  ·have e:=PZ hjn (by rw[hq];simp[SY,h2])
   have h2':(4:Int)<l[j].body.length:=by omega
   simp -implicitDefEqProofs [hjn,h4',h2',e]
  have h2':¬(4:Int)<l[j].body.length:=by omega
  simp -implicitDefEqProofs [hjn,h4',h2']
  refine Aa (hN _ _ _ (by unfold maxLen;omega)) ?_
  by_cases h3:allIn l[j].body 0 255=true
  rotate_left
  ·have e:=PZ hjn (by rw[hq];simp[SY,h3])
   simp -implicitDefEqProofs [hjn,h3,e]
  simp -implicitDefEqProofs [hjn,h3]
  exact⟨k-1,by omega,j+1,by omega,by rw[hst,hq,h4f];simp[SY,h1,h2,h3],by simp[hw]⟩
 ·obtain rfl:j=l.length:=by omega
  have e:Ej l=decide (l.length<=6):=by unfold Ej;rw[hr];rfl
  by_cases h5:l.length<=6
  ·have h5':(l.length:Int)<=6:=by omega
   simp -implicitDefEqProofs [e,h5,h5']
  ·have h5':¬(l.length:Int)<=6:=by omega
   simp -implicitDefEqProofs [e,h5,h5']
def Ba (l:List Ext):List Int:=l.map (·.tag)
theorem Ale {l:List Ext} {j:Nat} (h:j<l.length):Ba (l.take (j+1))=Ba (l.take j)++ [l[j].tag]:=by
 have e:l.take (j+1)=l.take j++ [l[j]]:=by simp
 unfold Ba
 rw[e,List.map_append];rfl
abbrev UX:Prop:=∀l:List Ext,l.length<=4194304->R [.sl 1 2 l.length (l.flatMap Cc)] [] (.sl 0 1 (Ba l).length (ints (Ba l))) []
theorem AkD:UX (Body D PD):=by
 intro l hl
 simp -implicitDefEqProofs
 refine Ag (fun k s=>∃j o1 o2,j+k=l.length/\s=⟨[.sl 1 2 l.length (l.flatMap Cc),.undef,.arr 3,I j,.undef],[.free,o1,o2,.arr 1 0 (Ba (l.take j)).length (ints (Ba (l.take j)))]⟩) ?_ (l.length) _ ⟨0,.free,.free,by simp,by simp[Ba]⟩
 intro k s ⟨j,o1,o2,hj,hs⟩
 subst hs
 by_cases hjn:j<l.length
 ·have hw:=Cv (j:=j) (by omega)
  have hst:=Ale hjn
  have hlen:(Ba (l.take j)).length=j:=by simp[Ba];omega
  have hb:(j+1)*8<=1099511627776:=by omega
  simp -implicitDefEqProofs [hjn,hlen,hb]
  exact⟨k-1,by omega,j+1,by omega,by simp[hw],by rw[hst];simp[hlen],by rw[hst]⟩
 ·have e:l.take j=l:=List.take_of_length_le (by omega)
  simp -implicitDefEqProofs [hjn,e]
theorem AJg:UX (Body D AxM):=by
 intro l hl
 simp -implicitDefEqProofs
 refine Ag (fun k s=>∃j v3 o1 o2 o3,j+k=l.length/\s=⟨[.undef,.undef,.arr 4,v3,.sl 1 2 l.length (l.flatMap Cc),I l.length,I j,.undef],[.free,o1,o2,o3,.arr 1 0 (Ba (l.take j)).length (ints (Ba (l.take j)))]⟩) ?_ (l.length) _ ⟨0,.undef,.free,.free,.free,by simp,by simp[Ba]⟩
 intro k s ⟨j,v3,o1,o2,o3,hj,hs⟩
 subst hs
 by_cases hjn:j<l.length
 ·have hw:=Cv (j:=j) (by omega)
  have hst:=Ale hjn
  have hlen:(Ba (l.take j)).length=j:=by simp[Ba];omega
  have hb:(j+1)*8<=1099511627776:=by omega
  simp -implicitDefEqProofs [hjn,hlen,hb]
  exact⟨k-1,by omega,j+1,by omega,by simp[hw],by rw[hst];simp[hlen],by rw[hst]⟩
 ·have e:l.take j=l:=List.take_of_length_le (by omega)
  simp -implicitDefEqProofs [hjn,e]
def kept (p:Int->Bool) (l:List Ext):List Ext:=l.filter fun x=>p x.tag
theorem R9 {p:Int->Bool} {l:List Ext} {j:Nat} (h:j<l.length):kept p (l.take (j+1))=kept p (l.take j)++(if p l[j].tag then [l[j]]else []):=AaH (p:=fun x:Ext=>p x.tag) h
theorem Rq {p:Int->Bool} {l:List Ext} {j:Nat} (h:l.length<=j):kept p (l.take j)=kept p l:=AdG h
theorem Rl {p:Int->Bool} {l:List Ext} {j:Nat}:(kept p (l.take j)).length<=j:=Adw
theorem QV {l:List Ext} (h:OD l) (p:Int->Bool):OD (kept p l):=Aia h _
theorem NZ {p:Int->Bool} {l:List Ext} {j:Nat} (h:j<l.length) (hp:p l[j].tag=true):
 (kept p (l.take j)).flatMap Cc++ [.sc (.int .i64 l[j].tag),.sl 0 1 l[j].body.length (ints l[j].body)]=(kept p (l.take (j+1))).flatMap Cc:=by
 rw[R9 h,if_pos hp,List.flatMap_append];simp
theorem G7 {p:Int->Bool} {l:List Ext} {j:Nat} (h:j<l.length) (hp:p l[j].tag=true):(kept p (l.take (j+1))).length=(kept p (l.take j)).length+1:=by
 rw[R9 h,if_pos hp];simp
theorem RG {p:Int->Bool} {l:List Ext} {j:Nat} (h:j<l.length) (hp:¬p l[j].tag=true):kept p (l.take (j+1))=kept p (l.take j):=by
 rw[R9 h,if_neg hp,List.append_nil]
def AE7 (caps:List V):Prop:=∀k,caps.any (m1 k)=false
theorem Atd:AE7 []:=fun _=>rfl
theorem AzJ {fl:Nat} {cs:List V} {o:Nat} {r:List V} (h:AE7 r):AE7 (.rptr fl cs o::r):=fun k=>by
 have:=h k
 simp only[List.any_cons,this,m1,Bool.or_self]
theorem Atc {k g:Nat} {caps:List V} (h:AE7 caps):OB k (.fn g caps)= .fn g caps:=by
 have:=h k
 simp only[OB,m3,m2,this]
 rfl
theorem Aye {a b g:Nat} {caps:List V} (h:AE7 caps):Y0 a b (.fn g caps)= .fn g caps:=by
 have:=h a
 simp only[Y0,m3,m2,this]
 rfl
abbrev At9 (D:Dn) (R:Rel):Prop:=∀(l:List Ext) (g:Nat) (caps:List V) (p:Int->Bool),OD l->Atz caps->AE7 caps->(∀t:Int,D g (I t::caps) [] (B (p t)) [])->
 R [.sl 1 2 l.length (l.flatMap Cc),.fn g caps] [] (.sl 0 2 (kept p l).length ((kept p l).flatMap Cc)) []
theorem AIf:At9 D (Body D Awm):=by
 intro l g caps p hl hc hno hp
 have hll:=hl.1
 simp -implicitDefEqProofs [↓Atc hno,↓Aye hno]
 refine Ag (fun k s=>∃j v4 o1 o2 o3 o4 o5,j+k=l.length/\s=⟨[.undef,.fn g caps,.undef,.arr 6,v4,.sl 1 2 l.length (l.flatMap Cc),I l.length,I j,.undef,.undef],[.free,o1,o2,o3,o4,o5,.arr 2 0 (kept p (l.take j)).length ((kept p (l.take j)).flatMap Cc)]⟩) ?_ (l.length) _ ⟨0,.undef,.free,.free,.free,.free,.free,by simp,by simp[kept,↓Atc hno,↓Aye hno]⟩
 intro k s ⟨j,v4,o1,o2,o3,o4,o5,hj,hs⟩
 subst hs
 by_cases hjn:j<l.length
 ·have hw:=Cv (j:=j) (by omega)
  have hb:=P5 hl hjn
  have h1:l[j].body.length*8<=1099511627776:=by omega
  have hkl:=Rl (p:=p) (l:=l) (j:=j)
  have h2:((kept p (l.take j)).length+1)*32<=1099511627776:=by omega
  simp -implicitDefEqProofs [hjn,↓Atc hno,↓Aye hno,hc.1,hc.2.1]
  refine Aa (hp l[j].tag) ?_
  by_cases he:p l[j].tag=true
  ·have hst:=NZ hjn he
   have hsl:=G7 hjn he
   simp -implicitDefEqProofs [he,hjn,↓Atc hno,↓Aye hno,h1,h2]
   exact⟨k-1,by omega,j+1,by omega,by simp[hw],by rw[hsl],by rw[<-hst]⟩
  ·have hst:=RG hjn he
   simp -implicitDefEqProofs [he,↓Atc hno,↓Aye hno]
   exact⟨k-1,by omega,j+1,by omega,by simp[hw],by rw[hst],by rw[hst]⟩
 ·have e:=Rq (p:=p) (l:=l) (j:=j) (by omega)
  simp -implicitDefEqProofs [hjn,e]
abbrev Az6:Prop:=∀t:Int,R [I t] [] (B true) []
abbrev Axo:Prop:=∀t:Int,R [I t] [] (B (!BH t)) []
theorem AGQ:Az6 (Body D Au0):=by
 intro t
 simp -implicitDefEqProofs
theorem AEa (hR:Ib (D 279)):Axo (Body D AtI):=by
 intro t
 simp -implicitDefEqProofs
 refine Aa (hR t) ?_
 simp -implicitDefEqProofs
theorem AI7 (l:List Ext):kept (fun _=>true) l=l:=by simp[kept]
abbrev U5:Prop:=∀l:List Ext,OD l->R [.sl 1 2 l.length (l.flatMap Cc)] [] (.sl 0 2 l.length (l.flatMap Cc)) []
theorem AHE (h1:Az6 (D 350)) (hK:At9 D (D 298)):U5 (Body D Av9):=by
 intro l hl
 simp -implicitDefEqProofs
 refine Aa (hK l 350 [] (fun _=>true) hl Api Atd (fun t=>h1 t)) ?_
 simp -implicitDefEqProofs [AI7]
def Xy (l:List Ext):List Ext:=kept (fun t=> !BH t) l
def JP (l:List Ext) (tags:List Int):List Ext:=kept (fun t=>decide (t∈tags)) l
abbrev Lv:Prop:=∀l:List Ext,OD l->R [.sl 1 2 l.length (l.flatMap Cc)] [] (.sl 0 2 (Xy l).length ((Xy l).flatMap Cc)) []
theorem ADH (h1:Axo (D 373)) (hK:At9 D (D 298)):Lv (Body D Aue):=by
 intro l hl
 simp -implicitDefEqProofs
 refine Aa (hK l 373 [] (fun t=> !BH t) hl Api Atd (fun t=>h1 t)) ?_
 simp -implicitDefEqProofs [Xy]
abbrev QD:Prop:=∀(l:List Ext) (tags:List Int),OD l->tags.length<=maxLen->R [.sl 1 2 l.length (l.flatMap Cc),.sl 1 1 tags.length (ints tags)] [] (.sl 0 2 (JP l tags).length ((JP l tags).flatMap Cc)) []
abbrev AyO:Prop:=∀(t:Int) (tags:List Int),tags.length<=maxLen->R [I t,.rptr 1 [.sl 0 1 tags.length (ints tags)] 0] [] (B (decide (t∈tags))) []
theorem AzG {a:List Int} {r:List V} (h:Atz r):Atz (.rptr 1 [.sl 0 1 a.length (ints a)] 0::r):=AzW (fun H=>by simp) (fun H=>by simp) h
theorem AIz (hH:UQ (D 188)):AyO (Body D AvJ):=by
 intro t tags hl
 simp -implicitDefEqProofs
 refine Aa (hH tags t hl) ?_
 simp -implicitDefEqProofs
theorem AHN (h1:AyO (D 374)) (hK:At9 D (D 298)):QD (Body D AwQ):=by
 intro l tags hl ht
 simp -implicitDefEqProofs
 refine Aa (hK l 374 _ (fun t=>decide (t∈tags)) hl (AzG Api) (AzJ Atd) (fun t=>h1 t tags ht)) ?_
 simp -implicitDefEqProofs [JP]
theorem AiG (hH:UQ (D 166)):QD (Body D NE):=by
 intro l tags hl ht
 have hll:=hl.1
 have hres:JP l tags=kept (fun t=>decide (t∈tags)) l:=rfl
 rw[hres]
 generalize hp:(fun t=>decide (t∈tags))=p
 simp -implicitDefEqProofs
 refine Ag (fun k s=>∃j o1 o2 o3 o4,j+k=l.length/\s=⟨[.sl 1 2 l.length (l.flatMap Cc),.sl 1 1 tags.length (ints tags),.undef,.arr 5,I j,.undef,.undef],[.free,o1,o2,o3,o4,.arr 2 0 (kept p (l.take j)).length ((kept p (l.take j)).flatMap Cc)]⟩) ?_ (l.length) _ ⟨0,.free,.free,.free,.free,by simp,by simp[kept]⟩
 intro k s ⟨j,o1,o2,o3,o4,hj,hs⟩
 subst hs
 by_cases hjn:j<l.length
 ·have hw:=Cv (j:=j) (by omega)
  have hb:=P5 hl hjn
  have h1:l[j].body.length*8<=1099511627776:=by omega
  have hkl:=Rl (p:=p) (l:=l) (j:=j)
  have h2:((kept p (l.take j)).length+1)*32<=1099511627776:=by omega
  simp -implicitDefEqProofs [hjn]
  refine Aa (hH tags l[j].tag ht) ?_
  have hpe:decide (l[j].tag∈tags)=p l[j].tag:=by rw[<-hp]
  rw[hpe]
  by_cases he:p l[j].tag=true
  ·have hst:=NZ hjn he
   have hsl:=G7 hjn he
   simp -implicitDefEqProofs [he,hjn,h1,h2]
   exact⟨k-1,by omega,j+1,by omega,by simp[hw],by rw[hsl],by rw[<-hst]⟩
  ·have hst:=RG hjn he
   simp -implicitDefEqProofs [he]
   exact⟨k-1,by omega,j+1,by omega,by simp[hw],by rw[hst],by rw[hst]⟩
 ·have e:=Rq (p:=p) (l:=l) (j:=j) (by omega)
  simp -implicitDefEqProofs [hjn,e]
theorem Aak (hR:Ib (D 250)):Lv (Body D IX):=by
 intro l hl
 have hll:=hl.1
 have hres:Xy l=kept (fun t=> !BH t) l:=rfl
 rw[hres]
 generalize hp:(fun t=> !BH t)=p
 simp -implicitDefEqProofs
 refine Ag (fun k s=>∃j o1 o2 o3 o4,j+k=l.length/\s=⟨[.sl 1 2 l.length (l.flatMap Cc),.undef,.arr 5,I j,.undef,.undef],[.free,o1,o2,o3,o4,.arr 2 0 (kept p (l.take j)).length ((kept p (l.take j)).flatMap Cc)]⟩) ?_ (l.length) _ ⟨0,.free,.free,.free,.free,by simp,by simp[kept]⟩
 intro k s ⟨j,o1,o2,o3,o4,hj,hs⟩
 subst hs
 by_cases hjn:j<l.length
 ·have hw:=Cv (j:=j) (by omega)
  have hb:=P5 hl hjn
  have h1:l[j].body.length*8<=1099511627776:=by omega
  have hkl:=Rl (p:=p) (l:=l) (j:=j)
  have h2:((kept p (l.take j)).length+1)*32<=1099511627776:=by omega
  simp -implicitDefEqProofs [hjn]
  refine Aa (hR l[j].tag) ?_
  have hpe:(!BH l[j].tag)=p l[j].tag:=by rw[<-hp]
  by_cases he:p l[j].tag=true
  ·have hst:=NZ hjn he
   have hsl:=G7 hjn he
   have he':BH l[j].tag=false:=by rw[he]at hpe;simpa using hpe
   simp -implicitDefEqProofs [he',hjn,h1,h2]
   exact⟨k-1,by omega,j+1,by omega,by simp[hw],by rw[hsl],by rw[<-hst]⟩
  ·have hst:=RG hjn he
   have he':BH l[j].tag=true:=by simp at he;rw[he]at hpe;simpa using hpe
   simp -implicitDefEqProofs [he']
   exact⟨k-1,by omega,j+1,by omega,by simp[hw],by rw[hst],by rw[hst]⟩
 ·have e:=Rq (p:=p) (l:=l) (j:=j) (by omega)
  simp -implicitDefEqProofs [hjn,e]
theorem Aim (l:List Ext):JP l (Ba l)=l:=by
 unfold JP kept
 rw[List.filter_eq_self]
 intro x hx
 simp only[decide_eq_true_eq]
 exact List.mem_map.2 ⟨x,hx,rfl⟩
theorem QA (l:List Ext):(Ba l).length=l.length:=by simp[Ba]
theorem Ak8 (hT:UX (D 308)) (hK:QD (D 331)):U5 (Body D Nc):=by
 intro l hl
 have hll:=hl.1
 simp -implicitDefEqProofs
 refine Aa (hT l hll) ?_
 simp -implicitDefEqProofs
 refine Aa (hK l (Ba l) hl (by rw[QA];unfold maxLen;omega)) ?_
 simp -implicitDefEqProofs [Aim]
abbrev InV (a b c:Int):Prop:=b<=a/\a<=c
def JF (xs:List Int) (j:Nat):Bool:=(List.range j).all fun i=>decide (InV (xs.getD i 0) 1 9)&&(decide (i=0)||decide (xs.getD (i-1) 0<xs.getD i 0))
theorem Qu (xs:List Int) (j:Nat):JF xs (j+1)=(JF xs j&&(decide (InV (xs.getD j 0) 1 9)&&(decide (j=0)||decide (xs.getD (j-1) 0<xs.getD j 0)))):=by
 unfold JF
 rw[List.range_succ,List.all_append]
 simp
theorem Adi {xs:List Int} {j:Nat} (h:j<xs.length) (hn:JF xs (j+1)=false):JF xs xs.length=false:=by
 have:∀n,JF xs (j+1+n)=false:=by
  intro n
  induction n with
  | zero=>exact hn
  | succ n ih=>rw[show j+1+(n+1)=(j+1+n)+1 by omega,Qu,ih];rfl
 have:=this (xs.length-(j+1))
 rwa [show j+1+(xs.length-(j+1))=xs.length by omega]at this
theorem VG {xs:List Int} {j:Nat} (h:j<xs.length):xs.getD j 0=xs[j]:=by simp[h]
def AQ (xs:List Int):Bool:=JF xs xs.length&&decide (0<xs.length)
abbrev Dr:Prop:=∀xs:List Int,xs.length<=maxLen->R [.sl 1 1 xs.length (ints xs)] [] (B (AQ xs)) []
theorem AaQ (hI:Vf (D 71)):Dr (Body D I6):=by
 intro xs hl
 unfold maxLen at hl
 simp -implicitDefEqProofs
 refine Ag (fun k s=>∃j,j+k=xs.length/\JF xs j=true/\s=⟨[.sl 1 1 xs.length (ints xs),.undef,.sc (.int .i64 j),.undef,.undef],[]⟩) ?_ xs.length _ ⟨0,by simp,by simp[JF],by simp⟩
 intro k s ⟨j,hj,hr,hs⟩
 subst hs
 by_cases hjn:j<xs.length
 ·have hw:=Cv (j:=j) (by omega)
  have hst:=Qu xs j
  rw[hr,Bool.true_and,VG hjn]at hst
  simp -implicitDefEqProofs [hjn]
  refine Aa (hI _ _ _) ?_
  by_cases h1:InV xs[j] 1 9
  rotate_left
  ·have e:AQ xs=false:=by unfold AQ;rw[Adi hjn (by rw[hst];simp[h1])];rfl
   simp -implicitDefEqProofs [h1,e]
  by_cases h0:j=0
  ·subst h0
   simp -implicitDefEqProofs [h1]
   exact⟨k-1,by omega,1,by omega,by rw[hst];simp[h1],by simpa using hw⟩
  ·have hw2:IntKind.i64.wrap ((j:Int)-1)=((j-1:Nat):Int):=by rw[Ad (by omega) (by omega)];omega
   have h2:(0:Int)<j:=by omega
   have h2':0<j:=by omega
   have h3:j-1<xs.length:=by omega
   rw[VG h3]at hst
   by_cases h4:xs[j-1]<xs[j]
   ·have h4':¬xs[j]<=xs[j-1]:=by omega
    simp -implicitDefEqProofs [h1,h2,h2',hw2,h3,hjn,h4']
    exact⟨k-1,by omega,j+1,by omega,by rw[hst];simp[h1,h0,h4],by simp[hw]⟩
   ·have e:AQ xs=false:=by unfold AQ;rw[Adi hjn (by rw[hst];simp[h1,h0,h4])];rfl
    have h4':xs[j]<=xs[j-1]:=by omega
    simp -implicitDefEqProofs [h1,h2,h2',hw2,h3,hjn,h4',e]
 ·obtain rfl:j=xs.length:=by omega
  have e:AQ xs=decide (0<xs.length):=by unfold AQ;rw[hr];rfl
  by_cases h5:0<xs.length
  ·have h5':(0:Int)<xs.length:=by omega
   simp -implicitDefEqProofs [e,h5,h5']
  ·have h5':¬(0:Int)<xs.length:=by omega
   simp -implicitDefEqProofs [e,h5,h5']
theorem AEf (hI:Vf (D 114)):Dr (Body D Aum):=by
 intro xs hl
 unfold maxLen at hl
 simp -implicitDefEqProofs
 refine Ag (fun k s=>∃j v2 v3,j+k=xs.length/\JF xs j=true/\s=⟨[.sl 1 1 xs.length (ints xs),.undef,v2,v3,.sl 1 1 xs.length (ints xs),.sc (.int .i64 xs.length),.sc (.int .i64 j),.undef,.undef],[]⟩) ?_ xs.length _ ⟨0,.undef,.undef,by simp,by simp[JF],by simp⟩
 intro k s ⟨j,v2,v3,hj,hr,hs⟩
 subst hs
 by_cases hjn:j<xs.length
 ·have hw:=Cv (j:=j) (by omega)
  have hst:=Qu xs j
  rw[hr,Bool.true_and,VG hjn]at hst
  simp -implicitDefEqProofs [hjn]
  refine Aa (hI _ _ _) ?_
  by_cases h1:InV xs[j] 1 9
  rotate_left
  ·have e:AQ xs=false:=by unfold AQ;rw[Adi hjn (by rw[hst];simp[h1])];rfl
   simp -implicitDefEqProofs [h1,e]
  by_cases h0:j=0
  ·subst h0
   simp -implicitDefEqProofs [h1]
   exact⟨k-1,by omega,1,by omega,by rw[hst];simp[h1],by simpa using hw⟩
  ·have hw2:IntKind.i64.wrap ((j:Int)-1)=((j-1:Nat):Int):=by rw[Ad (by omega) (by omega)];omega
   have h2:(0:Int)<j:=by omega
   have h2':0<j:=by omega
   have h3:j-1<xs.length:=by omega
   rw[VG h3]at hst
   by_cases h4:xs[j-1]<xs[j]
   ·have h4':¬xs[j]<=xs[j-1]:=by omega
    simp -implicitDefEqProofs [h1,h2,h2',hw2,h3,hjn,h4']
    exact⟨k-1,by omega,j+1,by omega,by rw[hst];simp[h1,h0,h4],by simp[hw]⟩
   ·have e:AQ xs=false:=by unfold AQ;rw[Adi hjn (by rw[hst];simp[h1,h0,h4])];rfl
    have h4':xs[j]<=xs[j-1]:=by omega
    simp -implicitDefEqProofs [h1,h2,h2',hw2,h3,hjn,h4',e]
 ·obtain rfl:j=xs.length:=by omega
  have e:AQ xs=decide (0<xs.length):=by unfold AQ;rw[hr];rfl
  by_cases h5:0<xs.length
  ·have h5':(0:Int)<xs.length:=by omega
   simp -implicitDefEqProofs [e,h5,h5']
  ·have h5':¬(0:Int)<xs.length:=by omega
   simp -implicitDefEqProofs [e,h5,h5']
theorem LD {p:Int->Bool} {xs:List Int} {j:Nat} (h:j<xs.length):(xs.take (j+1)).filter p=(xs.take j).filter p++(if p xs[j]then [xs[j]]else []):=by
 have e:xs.take (j+1)=xs.take j++ [xs[j]]:=by simp
 rw[e,List.filter_append]
 by_cases hp:p xs[j]=true<;>simp[hp]
theorem N7 {p:Int->Bool} {xs:List Int} {j:Nat} (h:xs.length<=j):(xs.take j).filter p=xs.filter p:=by rw[List.take_of_length_le h]
theorem Oa {p:Int->Bool} {xs:List Int} {j:Nat}:((xs.take j).filter p).length<=j:=by
 have:=List.length_filter_le p (xs.take j)
 have h2:(xs.take j).length<=j:=by simp;omega
 omega
def common (a b:List Int):List Int:=a.filter fun v=>decide (v∈b)
def Co (a:List Int) (v:Int):List Int:=a.filter fun x=> !decide (x=v)
abbrev Rz:Prop:=∀a b:List Int,a.length<=4194304->b.length<=maxLen->R [.sl 1 1 a.length (ints a),.sl 1 1 b.length (ints b)] [] (.sl 0 1 (common a b).length (ints (common a b))) []
abbrev Ic:Prop:=∀(a:List Int) (v:Int),a.length<=4194304->R [.sl 1 1 a.length (ints a),I v] [] (.sl 0 1 (Co a v).length (ints (Co a v))) []
abbrev Aw5:Prop:=∀(a:List Int) (v:Int),a.length<=4194304->R [.sl 1 1 a.length (ints a),.sl 1 1 1 (ints [v])] [] (.sl 0 1 (Co a v).length (ints (Co a v))) []
theorem AgF (hH:UQ (D 166)):Rz (Body D Mc):=by
 intro a b ha hb'
 have hres:common a b=a.filter (fun v=>decide (v∈b)):=rfl
 rw[hres]
 simp -implicitDefEqProofs
 refine Ag (fun k s=>∃j o1 o2,j+k=a.length/\s=⟨[.sl 1 1 a.length (ints a),.sl 1 1 b.length (ints b),.undef,.arr 3,.sc (.int .i64 j),.undef,.undef],[.free,o1,o2,.arr 1 0 ((a.take j).filter (fun v=>decide (v∈b))).length (ints ((a.take j).filter (fun v=>decide (v∈b))))]⟩) ?_ a.length _ ⟨0,by simp⟩
 intro k s ⟨j,o1,o2,hj,hs⟩
 subst hs
 by_cases hjn:j<a.length
 ·have hw:=Cv (j:=j) (by omega)
  have hst:=LD (p:=fun v=>decide (v∈b)) hjn
  have hln:=Oa (p:=fun v=>decide (v∈b)) (xs:=a) (j:=j)
  have hb:(((a.take j).filter (fun v=>decide (v∈b))).length+1)*8<=1099511627776:=by omega
  simp -implicitDefEqProofs [hjn]
  refine Aa (hH b _ hb') ?_
  by_cases h1:a[j]∈b
  ·rw[if_pos (by simp[h1])]at hst
   simp -implicitDefEqProofs [h1,hjn,hb]
   exact⟨k-1,by omega,j+1,by omega,by simp[hw],by rw[hst];simp,by rw[hst]⟩
  ·rw[if_neg (by simp[h1]),List.append_nil]at hst
   simp -implicitDefEqProofs [h1,hjn,hb]
   exact⟨k-1,by omega,j+1,by omega,by simp[hw],by rw[hst],by rw[hst]⟩
 ·have hx:=N7 (p:=fun v=>decide (v∈b)) (xs:=a) (j:=j) (by omega)
  simp -implicitDefEqProofs [hjn,hx]
theorem AHB (hH:UQ (D 188)):Rz (Body D Awg):=by
 intro a b ha hb'
 have hres:common a b=a.filter (fun v=>decide (v∈b)):=rfl
 rw[hres]
 simp -implicitDefEqProofs
 refine Ag (fun k s=>∃j v4 o1 o2,j+k=a.length/\s=⟨[.undef,.sl 1 1 b.length (ints b),.undef,.arr 3,v4,.sl 1 1 a.length (ints a),.sc (.int .i64 a.length),.sc (.int .i64 j),.undef,.undef],[.free,o1,o2,.arr 1 0 ((a.take j).filter (fun v=>decide (v∈b))).length (ints ((a.take j).filter (fun v=>decide (v∈b))))]⟩) ?_ a.length _ ⟨0,by simp⟩
 intro k s ⟨j,v4,o1,o2,hj,hs⟩
 subst hs
 by_cases hjn:j<a.length
 ·have hw:=Cv (j:=j) (by omega)
  have hst:=LD (p:=fun v=>decide (v∈b)) hjn
  have hln:=Oa (p:=fun v=>decide (v∈b)) (xs:=a) (j:=j)
  have hb:(((a.take j).filter (fun v=>decide (v∈b))).length+1)*8<=1099511627776:=by omega
  simp -implicitDefEqProofs [hjn]
  refine Aa (hH b _ hb') ?_
  by_cases h1:a[j]∈b
  ·rw[if_pos (by simp[h1])]at hst
   simp -implicitDefEqProofs [h1,hjn,hb]
   exact⟨k-1,by omega,j+1,by omega,by simp[hw],by rw[hst];simp,by rw[hst]⟩
  ·rw[if_neg (by simp[h1]),List.append_nil]at hst
   simp -implicitDefEqProofs [h1,hjn,hb]
   exact⟨k-1,by omega,j+1,by omega,by simp[hw],by rw[hst],by rw[hst]⟩
 ·have hx:=N7 (p:=fun v=>decide (v∈b)) (xs:=a) (j:=j) (by omega)
  simp -implicitDefEqProofs [hjn,hx]
theorem Ad0:Ic (Body D Jy):=by
 intro a v ha
 have hres:Co a v=a.filter (fun x=> !decide (x=v)):=rfl
 rw[hres]
 simp -implicitDefEqProofs
 refine Ag (fun k s=>∃j o1 o2,j+k=a.length/\s=⟨[.sl 1 1 a.length (ints a),.sc (.int .i64 v),.undef,.arr 3,.sc (.int .i64 j),.undef,.undef],[.free,o1,o2,.arr 1 0 ((a.take j).filter (fun x=> !decide (x=v))).length (ints ((a.take j).filter (fun x=> !decide (x=v))))]⟩) ?_ a.length _ ⟨0,by simp⟩
 intro k s ⟨j,o1,o2,hj,hs⟩
 subst hs
 by_cases hjn:j<a.length
 ·have hw:=Cv (j:=j) (by omega)
  have hst:=LD (p:=fun x=> !decide (x=v)) hjn
  have hln:=Oa (p:=fun x=> !decide (x=v)) (xs:=a) (j:=j)
  have hb:(((a.take j).filter (fun x=> !decide (x=v))).length+1)*8<=1099511627776:=by omega
  simp -implicitDefEqProofs [hjn]
  by_cases h1:a[j]=v
  ·rw[if_neg (by simp[h1]),List.append_nil]at hst
   simp -implicitDefEqProofs [h1,hjn,hb]
   exact⟨k-1,by omega,j+1,by omega,by simp[hw],by rw[hst],by rw[hst]⟩
  ·rw[if_pos (by simp[h1])]at hst
   simp -implicitDefEqProofs [h1,hjn,hb]
   exact⟨k-1,by omega,j+1,by omega,by simp[hw],by rw[hst];simp,by rw[hst]⟩
 ·have hx:=N7 (p:=fun x=> !decide (x=v)) (xs:=a) (j:=j) (by omega)
  simp -implicitDefEqProofs [hjn,hx]
theorem AJl (hH:UQ (D 188)):Aw5 (Body D AtM):=by
 intro a v ha
 have hres:Co a v=a.filter (fun x=> !decide (x=v)):=rfl
 rw[hres]
 simp -implicitDefEqProofs
 refine Ag (fun k s=>∃j v4 o1 o2,j+k=a.length/\s=⟨[.undef,.sl 1 1 1 (ints [v]),.undef,.arr 3,v4,.sl 1 1 a.length (ints a),.sc (.int .i64 a.length),.sc (.int .i64 j),.undef,.undef],[.free,o1,o2,.arr 1 0 ((a.take j).filter (fun x=> !decide (x=v))).length (ints ((a.take j).filter (fun x=> !decide (x=v))))]⟩) ?_ a.length _ ⟨0,by simp⟩
 intro k s ⟨j,v4,o1,o2,hj,hs⟩
 subst hs
 by_cases hjn:j<a.length
 ·have hw:=Cv (j:=j) (by omega)
  have hst:=LD (p:=fun x=> !decide (x=v)) hjn
  have hln:=Oa (p:=fun x=> !decide (x=v)) (xs:=a) (j:=j)
  have hb:(((a.take j).filter (fun x=> !decide (x=v))).length+1)*8<=1099511627776:=by omega
  simp -implicitDefEqProofs [hjn]
  refine Aa (hH [v] _ (by unfold maxLen;simp)) ?_
  by_cases h1:a[j]=v
  ·rw[if_neg (by simp[h1]),List.append_nil]at hst
   simp -implicitDefEqProofs [h1,hjn,hb]
   exact⟨k-1,by omega,j+1,by omega,by simp[hw],by rw[hst],by rw[hst]⟩
  ·rw[if_pos (by simp[h1])]at hst
   simp -implicitDefEqProofs [h1,hjn,hb]
   exact⟨k-1,by omega,j+1,by omega,by simp[hw],by rw[hst];simp,by rw[hst]⟩
 ·have hx:=N7 (p:=fun x=> !decide (x=v)) (xs:=a) (j:=j) (by omega)
  simp -implicitDefEqProofs [hjn,hx]
def hB (h:Hello):Prop:=h.versions.length<=4194304/\OD h.exts
def Dt (h:Hello):Bool:=AQ h.versions&&Ej h.exts
abbrev Gr:Prop:=∀h:Hello,hB h->R [arg (Ck h)] [] (B (Dt h)) []
theorem Aip (hA:Dr (D 208)) (hE:JX (D 312)):Gr (Body D Nq):=by
 intro h hh
 simp -implicitDefEqProofs
 refine Aa (hA _ (by have:=hh.1;unfold maxLen;omega)) ?_
 by_cases h1:AQ h.versions=true
 rotate_left
 ·simp -implicitDefEqProofs [h1,Dt]
 simp -implicitDefEqProofs [h1]
 refine Aa (hE _ hh.2) ?_
 simp -implicitDefEqProofs [h1,Dt]
theorem AH4 (hA:Dr (D 232)) (hE:JX (D 320)):Gr (Body D AwM):=by
 intro h hh
 simp -implicitDefEqProofs
 refine Aa (hA _ (by have:=hh.1;unfold maxLen;omega)) ?_
 by_cases h1:AQ h.versions=true
 rotate_left
 ·simp -implicitDefEqProofs [h1,Dt]
 simp -implicitDefEqProofs [h1]
 refine Aa (hE _ hh.2) ?_
 simp -implicitDefEqProofs [h1,Dt]
abbrev Q9:Prop:=∀h:Hello,hB h->R [arg (Ck h)] [] (.agg (Ck h)) []
theorem AG3 (hE:U5 (D 318)):Q9 (Body D AvD):=by
 intro h hh
 have h1:h.versions.length*8<=1099511627776:=by have:=hh.1;omega
 simp -implicitDefEqProofs [h1]
 refine Aa (hE _ hh.2) ?_
 simp -implicitDefEqProofs
theorem Ah2 (hE:U5 (D 311)):Q9 (Body D MB):=by
 intro h hh
 have h1:h.versions.length*8<=1099511627776:=by have:=hh.1;omega
 simp -implicitDefEqProofs [h1]
 refine Aa (hE _ hh.2) ?_
 simp -implicitDefEqProofs
def lossy (b:EG) (x:Ext):Bool:=decide (x.tag∈b.drops)||(b.lists&&(!decide (x.tag∈b.strips)&& !decide (M6 x.tag 1 3)))
def Aoa (vs:List Int):Int:=vs.getLastD 0
def PK (b:EG) (h:Hello):Bool:=(decide (0<b.limit)&&decide (b.limit<Aoa h.versions))||h.exts.any (lossy b)
def stays (b:EG) (t:Int):Bool:= !decide (t∈b.strips)
def AU:Hello:=⟨[],[]⟩
def BV (b:EG) (h:Hello):Hello×Bool:=if IL b&&(Dt h&& !PK b h)then(⟨h.versions,kept (stays b) h.exts⟩,true)else(AU,false)
abbrev Vm:Prop:=∀(b:EG) (h:Hello),Kh b->hB h->R [arg (DT b),arg (Ck h)] [] (.tup [.agg (Ck (BV b h).1),B (BV b h).2]) []
theorem ZT {xs:List Int} (h:AQ xs=true):0<xs.length:=by
 unfold AQ at h
 simp only[Bool.and_eq_true,decide_eq_true_eq]at h
 exact h.2
theorem Ao7 {xs:List Int} (h:xs.length-1<xs.length):Aoa xs=xs[xs.length-1]:=by
 unfold Aoa
 rw[List.getLastD_eq_getLast?,List.getLast?_eq_getElem?,List.getElem?_eq_getElem h];rfl
theorem Ai4 (hX:XD (D 152)) (hE:Gr (D 285)) (hH:UQ (D 166)) (hI:Vf (D 71)):Vm (Body D Nv):=by
 intro b h hb hh
 obtain⟨hv,hx⟩:=hh
 have hll:=hx.1
 simp -implicitDefEqProofs
 refine Aa (hX b hb) ?_
 by_cases h1:IL b=true
 rotate_left
 ·simp -implicitDefEqProofs [h1,BV,AU]
 simp -implicitDefEqProofs [h1]
 refine Aa (hE h ⟨hv,hx⟩) ?_
 by_cases h2:Dt h=true
 rotate_left
 ·simp -implicitDefEqProofs [h2,BV,AU]
 have hpos:0<h.versions.length:=ZT (by unfold Dt at h2;simp only[Bool.and_eq_true]at h2;exact h2.1)
 have hn1:h.versions.length-1<h.versions.length:=by omega
 have hw1:IntKind.i64.wrap ((h.versions.length:Int)-1)=((h.versions.length-1:Nat):Int):=by rw[Ad (by omega) (by omega)];omega
 have htop:=Ao7 hn1
 by_cases h3:0<b.limit
 ·by_cases h4:b.limit<h.versions[h.versions.length-1]
  ·have e:BV b h=(AU,false):=by simp[BV,PK,htop,h3,h4]
   simp -implicitDefEqProofs [h2,h3,hw1,hn1,hpos,h4,e,AU]
  ·have h3':b.limit<Aoa h.versions↔False:=by rw[htop];simpa using h4
   have b0:h.versions.length*8<=1099511627776:=by omega
   simp -implicitDefEqProofs [h2,h3,hw1,hn1,hpos,h4,b0]
   refine Ag (fun k s=>∃j v8 o6 o7 o8 o9,j+k=h.exts.length/\(h.exts.take j).any (lossy b)=false/\s=⟨[.undef,.undef,.ptr 0 0,.ptr 1 0,.ptr 2 0,.undef,.ptr 5 0,I j,v8,.undef,.undef,.undef,.undef,.undef],[.var ((DT b).map (AO 1)),.var ((Ck h).map (AO 1)),.var [.nil 1,.nil 2],.dead,.arr 1 0 h.versions.length (ints h.versions),.var [.arr 4,.arr 10],o6,o7,o8,o9,.arr 2 0 (kept (stays b) (h.exts.take j)).length ((kept (stays b) (h.exts.take j)).flatMap Cc)]⟩) ?_ (h.exts.length) _ ⟨0,.undef,.free,.free,.free,.free,by simp,by simp,by simp[kept]⟩
   intro k s ⟨j,v8,o6,o7,o8,o9,hj,hp,hs⟩
   subst hs
   by_cases hjn:j<h.exts.length
   ·have hw:=Cv (j:=j) (by omega)
    have hbd:=P5 hx hjn
    have b1:h.exts[j].body.length*8<=1099511627776:=by omega
    have hkl:=Rl (p:=stays b) (l:=h.exts) (j:=j)
    have b2:((kept (stays b) (h.exts.take j)).length+1)*32<=1099511627776:=by omega
    have hst:=Abh (p:=lossy b) hjn
    rw[hp,Bool.false_or]at hst
    simp -implicitDefEqProofs [hjn]
    refine Aa (hH _ _ hb.2) ?_
    simp -implicitDefEqProofs
    refine Aa (hH _ _ hb.1) ?_
    by_cases g1:h.exts[j].tag∈b.drops
    ·have e:BV b h=(AU,false):=by
      have:=QR (p:=lossy b) hjn (by simp[lossy,g1])
      simp[BV,PK,this]
     simp -implicitDefEqProofs [g1,e,AU]
    by_cases g2:h.exts[j].tag∈b.strips
    ·have hl:lossy b h.exts[j]=false:=by simp[lossy,g1,g2]
     have hk:=RG (p:=stays b) hjn (by simp[stays,g2])
     by_cases g3:b.lists=true
     ·simp -implicitDefEqProofs [g1,g2,g3]
      exact⟨k-1,by omega,j+1,by omega,by simpa using hst.trans hl,by simp[hw],by rw[hk],by rw[hk]⟩
     ·simp -implicitDefEqProofs [g1,g2,g3]
      exact⟨k-1,by omega,j+1,by omega,by simpa using hst.trans hl,by simp[hw],by rw[hk],by rw[hk]⟩
    have hk:=NZ (p:=stays b) hjn (by simp[stays,g2])
    have hkl:=G7 (p:=stays b) hjn (by simp[stays,g2])
    by_cases g3:b.lists=true
    rotate_left
    ·have hl:lossy b h.exts[j]=false:=by simp[lossy,g1,g2,g3]
     simp -implicitDefEqProofs [g1,g2,g3,hjn,b1,b2]
     exact⟨k-1,by omega,j+1,by omega,by simpa using hst.trans hl,by simp[hw],by rw[hkl],by rw[<-hk]⟩
    simp -implicitDefEqProofs [g1,g2,g3]
    refine Aa (hI _ _ _) ?_
    by_cases g4:M6 h.exts[j].tag 1 3
    ·have hl:lossy b h.exts[j]=false:=by simp[lossy,g1,g2,g3,g4]
     simp -implicitDefEqProofs [g4,hjn,b1,b2]
     exact⟨k-1,by omega,j+1,by omega,by simpa using hst.trans hl,by simp[hw],by rw[hkl],by rw[<-hk]⟩
    ·have e:BV b h=(AU,false):=by
      have:=QR (p:=lossy b) hjn (by simp[lossy,g1,g2,g3,g4])
      simp[BV,PK,this]
     simp -implicitDefEqProofs [g4,e,AU]
   ·have hje:j=h.exts.length:=by omega
    have ea:h.exts.any (lossy b)=false:=any_none (by omega) hp
    have ek:=Rq (p:=stays b) (l:=h.exts) (j:=j) (by omega)
    have e:BV b h=(⟨h.versions,kept (stays b) h.exts⟩,true):=by simp only[BV,h1,h2,PK,ea,h3'];simp
    simp -implicitDefEqProofs [hjn,e,ek]
 ·have b0:h.versions.length*8<=1099511627776:=by omega
  simp -implicitDefEqProofs [h2,h3,b0]
  refine Ag (fun k s=>∃j v8 o6 o7 o8 o9,j+k=h.exts.length/\(h.exts.take j).any (lossy b)=false/\s=⟨[.undef,.undef,.ptr 0 0,.ptr 1 0,.ptr 2 0,.undef,.ptr 5 0,I j,v8,.undef,.undef,.undef,.undef,.undef],[.var ((DT b).map (AO 1)),.var ((Ck h).map (AO 1)),.var [.nil 1,.nil 2],.dead,.arr 1 0 h.versions.length (ints h.versions),.var [.arr 4,.arr 10],o6,o7,o8,o9,.arr 2 0 (kept (stays b) (h.exts.take j)).length ((kept (stays b) (h.exts.take j)).flatMap Cc)]⟩) ?_ (h.exts.length) _ ⟨0,.undef,.free,.free,.free,.free,by simp,by simp,by simp[kept]⟩
  intro k s ⟨j,v8,o6,o7,o8,o9,hj,hp,hs⟩
  subst hs
  by_cases hjn:j<h.exts.length
  ·have hw:=Cv (j:=j) (by omega)
   have hbd:=P5 hx hjn
   have b1:h.exts[j].body.length*8<=1099511627776:=by omega
   have hkl:=Rl (p:=stays b) (l:=h.exts) (j:=j)
   have b2:((kept (stays b) (h.exts.take j)).length+1)*32<=1099511627776:=by omega
   have hst:=Abh (p:=lossy b) hjn
   rw[hp,Bool.false_or]at hst
   simp -implicitDefEqProofs [hjn]
   refine Aa (hH _ _ hb.2) ?_
   simp -implicitDefEqProofs
   refine Aa (hH _ _ hb.1) ?_
   by_cases g1:h.exts[j].tag∈b.drops
   ·have e:BV b h=(AU,false):=by
     have:=QR (p:=lossy b) hjn (by simp[lossy,g1])
     simp[BV,PK,this]
    simp -implicitDefEqProofs [g1,e,AU]
   by_cases g2:h.exts[j].tag∈b.strips
   ·have hl:lossy b h.exts[j]=false:=by simp[lossy,g1,g2]
    have hk:=RG (p:=stays b) hjn (by simp[stays,g2])
    by_cases g3:b.lists=true
    ·simp -implicitDefEqProofs [g1,g2,g3]
     exact⟨k-1,by omega,j+1,by omega,by simpa using hst.trans hl,by simp[hw],by rw[hk],by rw[hk]⟩
    ·simp -implicitDefEqProofs [g1,g2,g3]
     exact⟨k-1,by omega,j+1,by omega,by simpa using hst.trans hl,by simp[hw],by rw[hk],by rw[hk]⟩
   have hk:=NZ (p:=stays b) hjn (by simp[stays,g2])
   have hkl:=G7 (p:=stays b) hjn (by simp[stays,g2])
   by_cases g3:b.lists=true
   rotate_left
   ·have hl:lossy b h.exts[j]=false:=by simp[lossy,g1,g2,g3]
    simp -implicitDefEqProofs [g1,g2,g3,hjn,b1,b2]
    exact⟨k-1,by omega,j+1,by omega,by simpa using hst.trans hl,by simp[hw],by rw[hkl],by rw[<-hk]⟩
   simp -implicitDefEqProofs [g1,g2,g3]
   refine Aa (hI _ _ _) ?_
   by_cases g4:M6 h.exts[j].tag 1 3
   ·have hl:lossy b h.exts[j]=false:=by simp[lossy,g1,g2,g3,g4]
    simp -implicitDefEqProofs [g4,hjn,b1,b2]
    exact⟨k-1,by omega,j+1,by omega,by simpa using hst.trans hl,by simp[hw],by rw[hkl],by rw[<-hk]⟩
   ·have e:BV b h=(AU,false):=by
     have:=QR (p:=lossy b) hjn (by simp[lossy,g1,g2,g3,g4])
     simp[BV,PK,this]
    simp -implicitDefEqProofs [g4,e,AU]
  ·have hje:j=h.exts.length:=by omega
   have ea:h.exts.any (lossy b)=false:=any_none (by omega) hp
   have ek:=Rq (p:=stays b) (l:=h.exts) (j:=j) (by omega)
   have e:BV b h=(⟨h.versions,kept (stays b) h.exts⟩,true):=by simp only[BV,h1,h2,PK,ea,h3];simp
   simp -implicitDefEqProofs [hjn,e,ek]
abbrev AyQ:Prop:=∀(t:Int) (b:EG),Kh b->R [I t,.rptr 1 (DT b) 0] [] (B (stays b t)) []
theorem AH3 (hH:UQ (D 188)):AyQ (Body D Avq):=by
 intro t b hb
 simp -implicitDefEqProofs
 refine Aa (hH b.strips t hb.2) ?_
 simp -implicitDefEqProofs [stays]
abbrev AC7:Prop:=∀(x:Ext) (b:EG),Kh b->R [arg (Cc x),.rptr 1 (DT b) 0] [] (B (lossy b x)) []
theorem AKh (hH:UQ (D 188)) (hI:Vf (D 114)):AC7 (Body D AwI):=by
 intro x b hb
 simp -implicitDefEqProofs
 refine Aa (hH b.drops x.tag hb.1) ?_
 by_cases g1:x.tag∈b.drops
 ·simp -implicitDefEqProofs [g1,lossy]
 by_cases g3:b.lists=true
 rotate_left
 ·simp -implicitDefEqProofs [g1,g3,lossy]
 simp -implicitDefEqProofs [g1,g3]
 refine Aa (hH b.strips x.tag hb.2) ?_
 by_cases g2:x.tag∈b.strips
 ·simp -implicitDefEqProofs [g1,g2,g3,lossy]
 simp -implicitDefEqProofs [g2]
 refine Aa (hI _ _ _) ?_
 simp -implicitDefEqProofs [g1,g2,g3,lossy]
def AKX (xs:List Int):Int:=xs.foldl max (xs.headD 0)
abbrev AK8:Prop:=∀xs:List Int,0<xs.length->xs.length<=4194304->R [.sl 1 1 xs.length (ints xs)] [] (I (AKX xs)) []
abbrev AIh:Prop:=∀xs:List Int,xs.length<=4194304->R [.sl 1 1 xs.length (ints xs)] [] (.sl 0 1 xs.length (ints xs)) []
abbrev AFW:Prop:=∀(b:EG) (h:Hello),Kh b->hB h->IL b=true->AQ h.versions=true->R [arg (DT b),arg (Ck h)] [] (B (PK b h)) []
theorem AA5:∀(xs:List Int) (a:Int),(∀x,x∈xs->a<=x)->(∀i,(h:i+1<xs.length)->xs[i]<=xs[i+1])->xs.foldl max a=(xs.getLast?.getD a)
 | [],a,_,_=>rfl
 | x::r,a,h1,h2=>by
  have hx:=h1 x (by simp)
  have hr:∀y,y∈r->x<=y:=by
   intro y hy
   obtain⟨n,hn,rfl⟩:=List.getElem_of_mem hy
   have key:∀m,(hm:m<r.length)->x<=r[m]:=by
    intro m
    induction m with
    | zero=>intro hm;have:=h2 0 (by simp;omega);simpa using this
    | succ m ih=>
     intro hm
     have h3:=ih (by omega)
     have:=h2 (m+1) (by simp;omega)
     simp only[List.getElem_cons_succ]at this
     omega
   exact key n hn
  have ih:=AA5 r x hr (fun i h=>by have:=h2 (i+1) (by simp;omega);simpa using this)
  simp only[List.foldl_cons]
  rw[show max a x=x by omega,ih]
  cases r with
  | nil=>rfl
  | cons y s=>simp[List.getLast?_cons_cons,List.getLast?_cons]
theorem AFx {xs:List Int} (h:AQ xs=true) {i:Nat} (hi:i+1<xs.length):xs[i]<xs[i+1]:=by
 unfold AQ JF at h
 simp only[Bool.and_eq_true,List.all_eq_true,List.mem_range]at h
 have:=(h.1 (i+1) hi).2
 rw[VG hi,show i+1-1=i by omega,VG (by omega)]at this
 simpa using this
theorem AI6 {xs:List Int} (h:AQ xs=true):AKX xs=Aoa xs:=by
 cases xs with
 | nil=>rfl
 | cons x r=>
  unfold AKX Aoa
  simp only[List.headD_cons,List.foldl_cons]
  rw[show max x x=x by omega,AA5 r x ?_ ?_]
  ·cases r with
   | nil=>rfl
   | cons y s=>simp[List.getLastD_eq_getLast?,List.getLast?_cons_cons,List.getLast?_cons]
  ·intro y hy
   obtain⟨n,hn,rfl⟩:=List.getElem_of_mem hy
   induction n with
   | zero=>have:=AFx h (i:=0) (by simp;omega);simp at this;omega
   | succ m ih=>
    have h3:=ih (by omega) (List.getElem_mem _)
    have:=AFx h (i:=m+1) (by simp;omega)
    simp only[List.getElem_cons_succ]at this
    omega
  ·intro i hi
   have:=AFx h (i:=i+1) (by simp;omega)
   simp only[List.getElem_cons_succ]at this
   omega
theorem AyM {b:EG} {r:List V} (h:Atz r):Atz (.rptr 1 (DT b) 0::r):=AzW (fun H=>by simp) (fun H=>by simp) h
theorem AKS (hM:AK8 (D 325)) (h1:AC7 (D 326)) (hC:Atu D (D 327)):AFW (Body D Aya):=by
 intro b h hb hh hbox hver
 obtain⟨hv,hx⟩:=hh
 have hll:=hx.1
 have hpos:=ZT hver
 have hlim:0<=b.limit:=by unfold IL at hbox;simp only[Bool.and_eq_true,decide_eq_true_eq]at hbox;exact hbox.1.1.1.1.1
 by_cases h0:b.limit=0
 ·obtain⟨lim,dr,st,li⟩:=b
  dsimp only at h0
  subst h0
  simp -implicitDefEqProofs
  refine Aa (hC h.exts 326 _ (lossy ⟨0,dr,st,li⟩) (by unfold maxLen;omega) (AyM (b:=⟨0,dr,st,li⟩) Api) (fun j hj=>h1 h.exts[j] ⟨0,dr,st,li⟩ hb)) ?_
  simp -implicitDefEqProofs [PK]
 ·have hn:0<b.limit:=by omega
  simp -implicitDefEqProofs [h0]
  refine Aa (hM h.versions hpos hv) ?_
  rw[AI6 hver]
  by_cases h4:b.limit<Aoa h.versions
  ·simp -implicitDefEqProofs [h0,h4,PK,hn]
  ·simp -implicitDefEqProofs [h0,h4]
   refine Aa (hC h.exts 326 _ (lossy b) (by unfold maxLen;omega) (AyM Api) (fun j hj=>h1 h.exts[j] b hb)) ?_
   simp -implicitDefEqProofs [PK,hn,h4]
theorem AH8 (hX:XD (D 183)) (hE:Gr (D 292)) (hL:AFW (D 295)) (hC:AIh (D 296)) (h1':AyQ (D 297)) (hK:At9 D (D 298)):Vm (Body D AwK):=by
 intro b h hb hh
 simp -implicitDefEqProofs
 refine Aa (hX b hb) ?_
 by_cases h1:IL b=true
 rotate_left
 ·simp -implicitDefEqProofs [h1,BV,AU]
 simp -implicitDefEqProofs [h1]
 refine Aa (hE h hh) ?_
 by_cases h2:Dt h=true
 rotate_left
 ·simp -implicitDefEqProofs [h2,BV,AU]
 have hver:AQ h.versions=true:=by unfold Dt at h2;simp only[Bool.and_eq_true]at h2;exact h2.1
 simp -implicitDefEqProofs [h2]
 refine Aa (hL b h hb hh h1 hver) ?_
 by_cases h3:PK b h=true
 ·simp -implicitDefEqProofs [h3,BV,AU]
 have e:BV b h=(⟨h.versions,kept (stays b) h.exts⟩,true):=by simp[BV,h1,h2,h3]
 simp -implicitDefEqProofs [h3]
 refine Aa (hC h.versions hh.1) ?_
 simp -implicitDefEqProofs
 refine Aa (hK h.exts 297 _ (stays b) hh.2 (AyM Api) (AzJ Atd) (fun t=>h1' t b hb)) ?_
 simp -implicitDefEqProofs [e]
end Go.Eng.T
