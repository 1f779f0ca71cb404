/- Own work: part 16 of the proof of FnViews. -/
import Derived.Test.YtogmkdgkgfhhoaaGreatDoorVEngAL
import Derived.Test.YtogmkdgkgfhhoaaGreatDoorVP10
import Derived.Test.YtogmkdgkgfhhoaaGreatDoorVP11
import Derived.Test.YtogmkdgkgfhhoaaGreatDoorVP12
import Derived.Test.YtogmkdgkgfhhoaaGreatDoorVP13
import Derived.Test.YtogmkdgkgfhhoaaGreatDoorVP15
import Derived.Lib.ItoaNum
import Derived.Lib.Join
set_option linter.unusedSimpArgs false
set_option linter.unusedVariables false
namespace Go.Eng.T
set_option maxRecDepth 20000
set_option maxHeartbeats 2000000
theorem Ajm {w:World} (h:Ap w=true):M6 w.hurt 0 w.log.length/\w.log.length<=60/\w.stage.length<=60:=by
 have:=(BU.1 h).c
 unfold Es at this
 simp only[Bool.and_eq_true,decide_eq_true_eq]at this
 exact⟨this.2.2.2.1,this.2.1,this.1⟩
theorem AiA {w:World} {i:Int} {d:BP} {on:Bool} (h:Ap w=true) (hm:Lu w i=true):Ap (Hu w i d on)=true:=by
 have p:=BU.1 h
 have hh:=Ajm h
 unfold Lu at hm
 simp only[Bool.and_eq_true,decide_eq_true_eq]at hm
 have hw:IntKind.i64.wrap (w.hurt+1)=w.hurt+1:=Ad (by have:=hh.1.1;omega) (by have:=hh.1.2;omega)
 refine BU.2 ⟨p.reach,p.tags,p.few,p.ends,p.b,?_⟩
 have hc:=p.c
 unfold Es at hc⊢
 simp only[Bool.and_eq_true,decide_eq_true_eq]at hc⊢
 obtain⟨h1,h2,h3,h4,h5⟩:=hc
 refine⟨?_,by simp[Hu];omega,h3,?_,h5⟩
 ·unfold Hu;dsimp only;split
  ·simp;omega
  ·exact h1
 ·unfold Hu
  dsimp only
  rw[hw]
  have a1:=h4.1
  have a2:=h4.2
  split
  ·constructor
   ·omega
   ·simp;omega
  ·constructor
   ·omega
   ·simp;omega
theorem Abu {w:World} {i:Int} (h:Ap w=true):Ap (CR w i).1=true:=by
 unfold CR
 split
 ·rename_i hm;exact AiA h hm
 ·exact h
theorem Zc {w:World} (h:Ap w=true):Ap (Dc w).1=true:=by
 unfold Dc
 split
 ·exact XJ h
 ·exact h
theorem Z6 {w:World} {r:AX} (h:Ap w=true) (hr:AP r=true) (hv:r.version=w.rollout.version) (hs:r.stages=w.rollout.stages):Ap (Ca w r)=true:=by
 have p:=BU.1 h
 refine BU.2 ⟨p.reach,p.tags,p.few,p.ends,?_,?_⟩
 ·have hb:=p.b
  unfold FM at hb⊢
  unfold Ca
  simp only[Bool.and_eq_true,decide_eq_true_eq]at hb⊢
  rw[hv]
  exact⟨hr,hb.2⟩
 ·have hc:=p.c
  unfold Es at hc⊢
  unfold Ca
  dsimp only
  rw[hs]
  exact hc
theorem AkU {r:AX} (h:(Bp r).2=true):AP (Bp r).1=true:=by
 unfold Bp at h⊢
 split at h
 ·rename_i hc
  rw[if_pos hc]
  unfold RO at hc
  simp only[Bool.and_eq_true,Bool.not_eq_true',decide_eq_false_iff_not]at hc
  obtain⟨h1,h2,h3⟩:=hc
  unfold AP at h1⊢
  simp only[Bool.and_eq_true,decide_eq_true_eq]at h1⊢
  obtain⟨a1,⟨⟨a2,a3⟩,a4⟩,a5⟩:=h1
  have:=a5.1
  have:=a5.2
  exact⟨a1,⟨⟨a2,a3⟩,a4⟩,⟨by omega,by omega⟩⟩
 ·cases h
theorem Ak0 {r:AX} (h:(BI r).2=true):AP (BI r).1=true:=by
 unfold BI at h⊢
 split at h
 ·rename_i hc
  rw[if_pos hc]
  unfold VD at hc
  simp only[Bool.and_eq_true]at hc
  have h1:=hc.1
  unfold AP at h1⊢
  simp only[Bool.and_eq_true,decide_eq_true_eq]at h1⊢
  obtain⟨a1,⟨⟨a2,a3⟩,a4⟩,a5⟩:=h1
  have:=a5.1
  have:=a5.2
  exact⟨a1,⟨⟨a2,a3⟩,a4⟩,⟨by omega,by omega⟩⟩
 ·cases h
theorem Ahb (r:AX):(Bp r).1.stages=r.stages:=by unfold Bp;split<;>rfl
theorem AfT (r:AX):(BI r).1.stages=r.stages:=by unfold BI;split<;>rfl
theorem YB {w:World} (h:Ap w=true):Ap (BS w).1=true:=by
 unfold BS
 split
 ·exact h
 ·split
  ·split
   ·rename_i hn;exact XJ (Z6 h (AkU hn) (Agw _) (Ahb _))
   ·exact h
  ·split
   ·split
    ·rename_i hn;exact Ag3 (Z6 h (Ak0 hn) (Abi _) (AfT _))
    ·exact h
   ·exact h
theorem Agn {α:Type} {p:α->Bool}:∀(xs:List α) (i:Nat),Le p xs i=[]->∀x,x∈xs->p x=false
 | [],_,_,x,hx=>by cases hx
 | a::r,i,h,x,hx=>by
  unfold Le at h
  split at h
  ·cases h
  ·rename_i hp
   rcases List.mem_cons.1 hx with rfl | hx
   ·simpa using hp
   ·exact Agn r (i+1) h x hx
theorem Xf {w:World} {v pm:Int} (h:Ap w=true):Ap (Br w v pm).1=true:=by
 unfold Br
 split
 rotate_left
 ·exact h
 rename_i hc
 obtain⟨h1,h2⟩:=hc
 have p:=BU.1 h
 have hm:FP w.server (Fh w) v pm=true:=by
  unfold GN at h1
  split at h1
  ·assumption
  ·cases h1
 have e:(GN w.server (Fh w) v pm).1=Co w.server v:=by unfold GN;rw[if_pos hm]
 rw[e]
 unfold FP at hm
 simp only[Bool.and_eq_true,decide_eq_true_eq,Bool.not_eq_true',decide_eq_false_iff_not]at hm
 obtain⟨m1,m2,m3,m4,m5,m6⟩:=hm
 have hmem:∀x,x∈Co w.server v↔x∈w.server/\¬x=v:=by intro x;unfold Co;simp[List.mem_filter]
 have hver:w.rollout.version∈w.server:=by
  have hb:=p.b
  unfold FM at hb
  simp only[Bool.and_eq_true,decide_eq_true_eq]at hb
  exact hb.2.1
 refine BU.2 ⟨⟨?_,?_⟩,p.tags,p.few,p.ends,?_,p.c⟩
 ·refine ZB ?_ (fun x hx=> ?_) ?_
  ·exact List.Pairwise.filter _ (Ru m1)
  ·have:=RF m1 x ((hmem x).1 hx).1;exact⟨this.1,this.2⟩
  ·exact List.length_pos_of_mem ((hmem _).2 ⟨hver,fun h=>h2 h.symm⟩)
 ·intro e he
  have h3:=Agn _ _ m5 e.versions (by unfold Fh;exact List.mem_map.2 ⟨e,he,rfl⟩)
  have h4:=Ie.1 (p.reach.2 e he)
  have h5:=Ajj (Co w.server v) e.versions
  unfold Zk at h3
  refine Ie.2 ?_
  dsimp only
  simp[h4]at h3
  omega
 ·have hb:=p.b
  unfold FM at hb⊢
  simp only[Bool.and_eq_true,decide_eq_true_eq]at hb⊢
  exact⟨hb.1,(hmem _).2 ⟨hver,fun h=>h2 h.symm⟩,hb.2.2⟩
theorem Ah9 {s s' l:List Int} (h:0<AJ s l) (hl:AQ s' =true) (hs:∀x,x∈s->x∈s'):0<AJ s' l:=by
 unfold AJ at h⊢
 split at h
 ·rename_i hc
  rw[if_pos ⟨hl,hc.2⟩]
  obtain⟨x,hx,h0⟩:=AgC h
  unfold common at hx⊢
  have hx':=List.mem_filter.1 hx
  have hm:x∈s'.filter fun v=>decide (v∈l):=List.mem_filter.2 ⟨hs x hx'.1,hx'.2⟩
  have:=max_mem (a:=0) hm
  unfold Sw
  omega
 ·omega
theorem Wu {w:World} {v:Int} (h:Ap w=true):Ap (EC w v).1=true:=by
 unfold EC
 dsimp only
 have p:=BU.1 h
 by_cases hc:Tn w.server v=true
 rotate_left
 ·have e:(KT w.server v).1=w.server:=by unfold KT;rw[if_neg hc]
  rw[e];exact h
 have e:(KT w.server v).1=El w.server v:=by unfold KT;rw[if_pos hc]
 rw[e]
 unfold Tn at hc
 simp only[Bool.and_eq_true,decide_eq_true_eq]at hc
 have hv:=Aai hc.1 hc.2.1
 refine BU.2 ⟨⟨hv,fun e he=> ?_⟩,p.tags,p.few,p.ends,?_,p.c⟩
 ·exact Ie.2 (Ah9 (Ie.1 (p.reach.2 e he)) hv (fun x hx=>(IQ _ _ _).2 (.inl hx)))
 ·have hb:=p.b
  unfold FM at hb⊢
  simp only[Bool.and_eq_true,decide_eq_true_eq]at hb⊢
  exact⟨hb.1,(IQ _ _ _).2 (.inl hb.2.1),hb.2.2⟩
theorem AdF {w:World} {j:Nat} {e:Ai} (h:Ap w=true) (hj:j<w.ends.length) (he:Au e=true) (hv:e.versions=w.ends[j].versions):Ap {w with ends:=w.ends.set j e} =true:=by
 have p:=BU.1 h
 have hm:∀x,x∈w.ends.set j e->x∈w.ends∨x=e:=fun x hx=>List.mem_or_eq_of_mem_set hx
 refine BU.2 ⟨⟨p.reach.1,fun x hx=> ?_⟩,p.tags,by simp;exact p.few,fun x hx=> ?_,p.b,p.c⟩
 ·rcases hm x hx with hx | rfl
  ·exact p.reach.2 x hx
  ·rw[hv];exact p.reach.2 _ (List.getElem_mem hj)
 ·rcases hm x hx with hx | rfl
  ·exact p.ends x hx
  ·exact he
theorem AcB {w:World} {i:Int} {b:EG} (h:Ap w=true):Ap (Fg w i b).1=true:=by
 have p:=BU.1 h
 unfold Fg
 split
 rotate_left
 ·exact h
 split
 rotate_left
 ·exact h
 rename_i x hx
 split
 rotate_left
 ·exact h
 rename_i hc
 obtain⟨hj,rfl⟩:=List.getElem?_eq_some_iff.1 hx
 refine AdF h hj ?_ rfl
 have he:=p.ends _ (List.getElem_mem hj)
 unfold Au at he⊢
 simp only[Bool.and_eq_true,decide_eq_true_eq]at he⊢
 obtain⟨a1,a2,a3,a4,a5,a6,a7⟩:=he
 refine⟨a1,a2,a3,a4,by simp;omega,?_,a7⟩
 rw[List.all_append,a6]
 simp[hc.1]
theorem YA {w:World} {i:Int} (h:Ap w=true):Ap (DX w i).1=true:=by
 have p:=BU.1 h
 unfold DX
 split
 rotate_left
 ·exact h
 split
 rotate_left
 ·exact h
 rename_i x hx
 split
 ·exact h
 unfold Ob
 rw[hx]
 dsimp only
 obtain⟨hj,rfl⟩:=List.getElem?_eq_some_iff.1 hx
 refine AdF h hj ?_ rfl
 have he:=p.ends _ (List.getElem_mem hj)
 unfold Au at he⊢
 simp only[Bool.and_eq_true,decide_eq_true_eq]at he⊢
 obtain⟨a1,a2,a3,a4,a5,a6,a7⟩:=he
 exact⟨a1,a2,a3,a4,by simp,by simp,a7⟩
theorem Abs {w:World} {n:Int} (h:Ap w=true):Ap (ED w n).1=true:=by
 have p:=BU.1 h
 unfold ED
 split
 rotate_left
 ·exact h
 rename_i hc
 refine BU.2 ⟨p.reach,p.tags,p.few,p.ends,p.b,?_⟩
 have hh:=p.c
 unfold Es at hh⊢
 simp only[Bool.and_eq_true,decide_eq_true_eq]at hh⊢
 have a1:=hc.1.1
 have a2:=hc.2.1
 have a3:=hc.2.2
 exact⟨hh.1,hh.2.1,⟨by omega,by omega⟩,hh.2.2.2⟩
theorem Aho {w:World} {e:Event} (h:Ap w=true):Ap (AA w e).1=true:=by
 unfold AA
 repeat' split
 ·exact Abu h
 ·exact Zc h
 ·exact YB h
 ·exact Xf h
 ·exact Wu h
 ·exact AcB h
 ·exact YA h
 ·exact Abs h
 ·exact h
theorem Alx {w:World}:∀ {l:List Event},Ap w=true->Ap (Av w l)=true:=by
 intro l
 induction l generalizing w with
 | nil=>intro h;exact h
 | cons e l ih=>intro h;exact ih (Aho h)
set_option maxHeartbeats 4000000
theorem RS (w:World):(enter w).log=w.log:=by unfold enter;split<;>rfl
theorem AdD (w:World):(enter w).stage.length<=w.stage.length:=by unfold enter;split<;>simp
theorem Z4 (w:World):(enter w).ends.length=w.ends.length:=by unfold enter;split<;>simp
theorem AlP (w:World) (e:Event):(AA w e).1.log.length<=w.log.length+(if e.kind=1 then 1 else 0)/\(AA w e).1.stage.length<=w.stage.length+1/\(AA w e).1.ends.length=w.ends.length:=by
 unfold AA
 by_cases g1:e.kind=1
 ·rw[if_pos g1,if_pos g1]
  unfold CR
  split
  ·unfold Hu
   dsimp only
   refine⟨by simp,?_,rfl⟩
   split<;>simp
  ·exact⟨by first | omega | (dsimp only;omega),by first | omega | (dsimp only;omega),rfl⟩
 rw[if_neg g1,if_neg g1]
 split
 ·unfold Dc
  split
  ·have:=AdD w
   exact⟨by rw[RS];first | omega | (dsimp only;omega),by first | omega | (dsimp only;omega),Z4 w⟩
  ·exact⟨by first | omega | (dsimp only;omega),by first | omega | (dsimp only;omega),rfl⟩
 split
 ·unfold BS
  split
  ·exact⟨by first | omega | (dsimp only;omega),by first | omega | (dsimp only;omega),rfl⟩
  split
  ·split
   ·have:=AdD (Ca w (Bp w.rollout).1)
    refine⟨by rw[RS];unfold Ca;first | omega | (dsimp only;omega),?_,by show(enter _).ends.length=_;rw[Z4];rfl⟩
    unfold Ca at this⊢;dsimp only at this⊢;omega
   ·exact⟨by first | omega | (dsimp only;omega),by first | omega | (dsimp only;omega),rfl⟩
  split
  ·split
   ·refine⟨?_,?_,?_⟩
    ·unfold leave Ca;first | omega | (dsimp only;omega)
    ·unfold leave Ca;simp
    ·unfold leave Ca;simp
   ·exact⟨by first | omega | (dsimp only;omega),by first | omega | (dsimp only;omega),rfl⟩
  ·exact⟨by first | omega | (dsimp only;omega),by first | omega | (dsimp only;omega),rfl⟩
 split
 ·unfold Br;split<;>exact⟨by first | omega | (dsimp only;omega),by first | omega | (dsimp only;omega),rfl⟩
 split
 ·unfold EC;exact⟨by first | omega | (dsimp only;omega),by first | omega | (dsimp only;omega),rfl⟩
 split
 ·unfold Fg
  split
  ·split
   ·split
    ·exact⟨by first | omega | (dsimp only;omega),by first | omega | (dsimp only;omega),by simp⟩
    ·exact⟨by first | omega | (dsimp only;omega),by first | omega | (dsimp only;omega),rfl⟩
   ·exact⟨by first | omega | (dsimp only;omega),by first | omega | (dsimp only;omega),rfl⟩
  ·exact⟨by first | omega | (dsimp only;omega),by first | omega | (dsimp only;omega),rfl⟩
 split
 ·unfold DX
  split
  ·split
   ·split
    ·exact⟨by first | omega | (dsimp only;omega),by first | omega | (dsimp only;omega),rfl⟩
    ·unfold Ob
     split
     ·exact⟨by first | omega | (dsimp only;omega),by first | omega | (dsimp only;omega),by simp⟩
     ·exact⟨by first | omega | (dsimp only;omega),by first | omega | (dsimp only;omega),rfl⟩
   ·exact⟨by first | omega | (dsimp only;omega),by first | omega | (dsimp only;omega),rfl⟩
  ·exact⟨by first | omega | (dsimp only;omega),by first | omega | (dsimp only;omega),rfl⟩
 split
 ·unfold ED;split<;>exact⟨by first | omega | (dsimp only;omega),by first | omega | (dsimp only;omega),rfl⟩
 ·exact⟨by first | omega | (dsimp only;omega),by first | omega | (dsimp only;omega),rfl⟩
structure LW (n:Nat) (w:World):Prop where
 ok:Ap w=true
 pt:Yv w<=3500+10*n
 log:w.log.length<=n
 stg:w.stage.length<=n
 ends:0<w.ends.length/\w.ends.length<=5
set_option maxHeartbeats 2000000
def Vh (n:Nat) (w:World):Prop:=∀x,x∈w.log->(0<=x.fin/\x.fin<n)/\∃w0 i,x.dialed=KI w0 i
theorem OY {n:Nat} {w w':World} (h:Vh n w) (e:w'.log=w.log):Vh n w':=by unfold Vh;rw[e];exact h
theorem Ahr {n:Nat} {w:World} {e:Event} (hn:w.ends.length=n) (h:Vh n w):Vh n (AA w e).1:=by
 unfold AA
 by_cases g1:e.kind=1
 ·rw[if_pos g1]
  unfold CR
  split
  ·rename_i hm
   unfold Lu at hm
   simp only[Bool.and_eq_true,decide_eq_true_eq]at hm
   have a1:=hm.1.1
   have a2:=hm.1.2
   intro x hx
   unfold Hu at hx
   dsimp only at hx
   rcases List.mem_append.1 hx with hx | hx
   ·exact h x hx
   ·simp at hx
    subst hx
    exact⟨⟨a1,by dsimp only;omega⟩,w,e.n,rfl⟩
  ·exact h
 rw[if_neg g1]
 split
 ·unfold Dc
  split
  ·exact OY h (RS w)
  ·exact h
 split
 ·unfold BS
  split
  ·exact h
  split
  ·split
   ·exact OY h (by rw[RS];rfl)
   ·exact h
  split
  ·split
   ·exact OY h rfl
   ·exact h
  ·exact h
 split
 ·unfold Br;split<;>exact h
 split
 ·exact h
 split
 ·unfold Fg
  split
  ·split
   ·split<;>exact h
   ·exact h
  ·exact h
 split
 ·unfold DX
  split
  ·split
   ·split
    ·exact h
    ·exact OY h (by unfold Ob;split<;>rfl)
   ·exact h
  ·exact h
 split
 ·unfold ED;split<;>exact h
 ·exact h
theorem AdP {n:Nat}:∀ {l:List Event} {w:World},w.ends.length=n->Vh n w->Vh n (Av w l)/\(Av w l).ends.length=n
 | [],w,hn,h=>⟨h,hn⟩
 | e::l,w,hn,h=>AdP (l:=l) (w:=(AA w e).1) (by rw[(AlP w e).2.2];exact hn) (Ahr hn h)
set_option maxHeartbeats 4000000
set_option maxHeartbeats 2000000
set_option maxHeartbeats 2000000
set_option maxHeartbeats 4000000
set_option maxHeartbeats 4000000
set_option maxHeartbeats 4000000
structure AsH (p:World×List Event):Prop where
 ok:Ap p.1=true
 sz:Af p.1<=400
 log:p.1.log=[]
 ev:∀e,e∈p.2->AiO e
 len:0<p.2.length/\p.2.length<=18
 first:∃(w:World) (y:Int),Aek w/\p.1={w with least:=y}
set_option maxHeartbeats 4000000
structure Anr (w:World):Prop where
 ok:Ap w=true
 sz:Af w<=4200
 log:Vh w.ends.length w
variable (R:Rel)
abbrev Rt:Prop:=∀c:QM,Dw c->JA R [] c Anr (fun w=> .agg (Bu w))
variable (D:Dn)
theorem Ais (hW:RU (D 479)) (hE:O9 (D 484)) (hR:P6 (D 485)):Rt (Body D IK):=by
 intro c hc
 refine EJ (fun Q hQ=> ?_)
 simp -implicitDefEqProofs
 obtain⟨w,c1,hw,hc1,pw⟩:=hW c hc
 simp -implicitDefEqProofs [AL,ints]at pw
 refine Aa (pw) ?_
 simp -implicitDefEqProofs
 obtain⟨l,c2,⟨he,hl1,hl2⟩,hc2,pl⟩:=hE c1 16 hc1 (by omega)
 simp -implicitDefEqProofs [AL,ints]at pl
 refine Aa (pl) ?_
 have hl3:l.length<=30:=by simp at hl2;omega
 obtain⟨hok,hsz⟩:=AqC (m:=0) hw.sz he hl3
 have hwd:=Alx (w:=w) (l:=l) hw.ok
 have hlo:=AdP (l:=l) (w:=w) rfl (fun x hx=>by rw[hw.nolog]at hx;cases hx)
 have hlg:Vh (Av w l).ends.length (Av w l):=by rw[hlo.2];exact hlo.1
 clear hlo
 have pr:=hR w l hok
 simp -implicitDefEqProofs [Bu,ints]at pr⊢
 refine Aa (pr) ?_
 generalize Av w l=y at hsz hwd hlg
 simp -implicitDefEqProofs [Cu,Ab]
 exact hQ y c2 ⟨hwd,hsz,hlg⟩ hc2
set_option maxHeartbeats 2000000
theorem Ec {x:Int} (h:-1000<=x/\x<=1000):Py x:=by unfold Py;omega
theorem XB {l:List Int} {x:Int} (h:l.all (fun x=>decide (-1000<=x/\x<=1000))=true) (hx:x∈l):Py x:=by
 have:=List.all_eq_true.1 h x hx
 rw[decide_eq_true_eq]at this
 exact Ec this
theorem AiJ {l:List Int} {b:Int} {m:Nat} (h:VP l b m) (hb:b<=1000):DK l:=fun x hx=>Ec (by have:=h.2.1 x hx;omega)
theorem Ajn {l:List Int} {y:Int} (h:DK l) (hy:Py y):DK (l.set 0 y):=by
 intro x hx
 rcases List.mem_or_eq_of_mem_set hx with hx | rfl
 ·exact h x hx
 ·exact hy
theorem Apc {l:List Int} {y:Int} (h:DK l) (hy:Py y):DK (l++ [y]):=by
 intro x hx
 rcases List.mem_append.1 hx with hx | hx
 ·exact h x hx
 ·simp at hx;subst hx;exact hy
structure Ah8 (r:AX):Prop where
 len:r.stages.length<=3
 ver:Py r.version
 st:DK r.stages
 pos:Py r.pos
structure Ana (e:Ai):Prop where
 sm:ArD e
 vers:DK e.versions
 tags:DK e.tags
abbrev U9:Prop:=∀c:QM,Dw c->JA R [] c (fun l:List Int=>l.length<=5/\DK l) (fun l=> .sl 0 1 l.length (ints l))
theorem Ake (hB:CB (D 478)) (hI:Jc (D 481)) (hP:Ki (D 490)):U9 (Body D GD):=by
 intro c hc
 refine EJ (fun Q hQ=> ?_)
 simp -implicitDefEqProofs
 obtain⟨l,c1,hl,hc1,pl⟩:=hP c hc
 simp -implicitDefEqProofs [AL,ints]at pl
 refine Aa (pl) ?_
 obtain⟨hv,hl0⟩:=hl
 have hl4:=hv.2.2
 have hrg:=AiJ hv (by omega)
 simp -implicitDefEqProofs
 obtain⟨x,c2,hx,hc2,px⟩:=hB c1 9 hc1 (by omega)
 simp -implicitDefEqProofs [AL,ints]at px
 refine Aa (px) ?_
 by_cases g0:x=0
 ·simp -implicitDefEqProofs [g0]
  obtain⟨y,c3,hy,hc3,py⟩:=hI c2 [0, -1,9,10] hc2 (by simp) (by simp)
  simp -implicitDefEqProofs [AL,ints]at py
  refine Aa (py) ?_
  simp -implicitDefEqProofs [hl0,Cu,Ab]
  have:=hQ (l.set 0 y) c3 ⟨by simp;omega,Ajn hrg (XB (by decide) hy)⟩ hc3
  simpa[ints,List.map_set]using this
 by_cases g1:x=1
 ·have hb:(l.length+1)*8<=1099511627776:=by omega
  simp -implicitDefEqProofs [g1,hl0,hb,Cu,Ab]
  have:=hQ (l++ [l[0]]) c2 ⟨by simp;omega,Apc hrg (hrg _ (List.getElem_mem hl0))⟩ hc2
  simpa[ints]using this
 by_cases g2:x=2
 ·simp -implicitDefEqProofs [g2,Cu,Ab]
  exact hQ [] c2 ⟨by simp,by intro x hx;cases hx⟩ hc2
 simp -implicitDefEqProofs [g0,g1,g2,Cu,Ab]
 exact hQ l c2 ⟨by omega,hrg⟩ hc2
abbrev Rv:Prop:=∀c:QM,Dw c->JA R [] c (fun r:AX=>Aix r/\0<=r.pos/\r.pos<=3) (fun r=> .agg (Dj r))
theorem Ajc (hB:CB (D 478)) (hP:Mf (D 159)):Rv (Body D Ga):=by
 intro c hc
 refine EJ (fun Q hQ=> ?_)
 simp -implicitDefEqProofs
 obtain⟨x,c1,hx,hc1,px⟩:=hB c 6 hc (by omega)
 simp -implicitDefEqProofs [AL,ints]at px
 refine Aa (px) ?_
 have hx6:=hx.2.2 (by omega)
 have w1:IntKind.i64.wrap (1+x)=1+x:=Ad (by omega) (by omega)
 simp -implicitDefEqProofs [w1]
 obtain⟨y,c2,hy,hc2,py⟩:=hB c1 3 hc1 (by omega)
 simp -implicitDefEqProofs [AL,ints]at py
 refine Aa (py) ?_
 have hy3:=hy.2.2 (by omega)
 obtain⟨n,rfl⟩:∃n:Nat,y=n:=⟨y.toNat,by omega⟩
 simp -implicitDefEqProofs
 obtain⟨LI,hLI⟩:∃LI:Nat->St->Prop,LI=fun k s=>∃j cc l o3,j+k=n/\Dw cc/\VP l 90 j/\s=⟨[.ptr 0 0,.ptr 1 0,.ptr 2 0,I k,.undef],[.var (AL cc),.var [I 0,.nil 1,I 0,B false],.var [I (1+x),.arr 6,I 0,B false],o3,.free,.free,.arr 1 0 l.length (ints l)]⟩:=⟨_,rfl⟩
 refine Ag LI ?_ (n) _ (by rw[hLI];exact⟨0,c2,[],.free,by simp,hc2,Aac _,by simp[ints]⟩)
 intro k s hs
 rw[hLI]at hs
 obtain⟨j,cc,l,o3,hj,hcc,hl,hs⟩:=hs
 subst hs
 by_cases hk:0<k
 ·have hwk:IntKind.i64.wrap ((k:Int)-1)=(k-1:Nat):=by rw[Ad (by omega) (by omega)];omega
  simp -implicitDefEqProofs [hk]
  obtain⟨z,c3,hz,hc3,pz⟩:=hB cc 90 hcc (by omega)
  simp -implicitDefEqProofs [AL,ints]at pz
  refine Aa (pz) ?_
  have hz4:=hz.2.2 (by omega)
  have w2:IntKind.i64.wrap (1+z)=1+z:=Ad (by omega) (by omega)
  simp -implicitDefEqProofs [w2]
  refine Aa (hP l (1+z) (by have:=hl.2.2;omega)) ?_
  simp -implicitDefEqProofs [hwk]
  refine⟨k-1,by omega,?_⟩
  rw[hLI]
  exact⟨j+1,c3,El l (1+z),_,by omega,hc3,Xj hl (by omega),rfl⟩
 ·have hk0:k=0:=by omega
  subst hk0
  have hll:=hl.2.2
  have hb1:(l.length+1)*8<=1099511627776:=by omega
  simp -implicitDefEqProofs [hb1]
  have hst:=Apk (O5 hl (by omega))
  obtain⟨z,c3,hz,hc3,pz⟩:=hB cc (l.length+1) hcc (by omega)
  simp -implicitDefEqProofs [AL,ints]at pz
  refine Aa (pz) ?_
  have hz3:=hz.2.2 (by omega)
  simp -implicitDefEqProofs [Cu,Ab]
  have:=hQ ⟨1+x,l++ [100],z,false⟩ c3 ⟨⟨hst,by dsimp only;omega⟩,by dsimp only;omega⟩ hc3
  simpa[ints,Dj]using this
abbrev V4:Prop:=∀c:QM,Dw c->JA R [] c Ah8 (fun r=> .agg (Dj r))
theorem Ak6 (hB:CB (D 478)) (hI:Jc (D 481)) (hT:Rv (D 487)):V4 (Body D Lg):=by
 intro c hc
 refine EJ (fun Q hQ=> ?_)
 simp -implicitDefEqProofs
 obtain⟨r,c1,hr,hc1,pr⟩:=hT c hc
 simp -implicitDefEqProofs [AL,ints]at pr
 refine Aa (pr) ?_
 obtain⟨ver,st,pos,off⟩:=r
 obtain⟨⟨⟨hvp,hl0,_⟩,hver⟩,hpos⟩:=hr
 have hl:=hvp.2.2
 have hrg:=AiJ hvp (by omega)
 dsimp only at hl hl0 hver hpos hrg
 have rv:Py ver:=Ec (by omega)
 have rp:Py pos:=Ec (by omega)
 simp -implicitDefEqProofs
 obtain⟨x,c2,hx,hc2,px⟩:=hB c1 10 hc1 (by omega)
 simp -implicitDefEqProofs [AL,ints]at px
 refine Aa (px) ?_
 by_cases g0:x=0
 ·simp -implicitDefEqProofs [g0]
  obtain⟨y,c3,hy,hc3,py⟩:=hI c2 [0,9,10] hc2 (by simp) (by simp)
  simp -implicitDefEqProofs [AL,ints]at py
  refine Aa (py) ?_
  simp -implicitDefEqProofs [Cu,Ab]
  exact hQ ⟨y,st,pos,off⟩ c3 ⟨hl,XB (by decide) hy,hrg,rp⟩ hc3
 by_cases g1:x=1
 ·simp -implicitDefEqProofs [g1]
  obtain⟨y,c3,hy,hc3,py⟩:=hI c2 [0,101,100] hc2 (by simp) (by simp)
  simp -implicitDefEqProofs [AL,ints]at py
  refine Aa (py) ?_
  simp -implicitDefEqProofs [hl0,Cu,Ab]
  have:=hQ ⟨ver,st.set 0 y,pos,off⟩ c3 ⟨by simpa using hl,rv,Ajn hrg (XB (by decide) hy),rp⟩ hc3
  simpa[ints,Dj,List.map_set]using this
 by_cases g2:x=2
 ·simp -implicitDefEqProofs [g2]
  obtain⟨y,c3,hy,hc3,py⟩:=hI c2 [-1,st.length,9223372036854775807] hc2 (by simp) (by simp)
  simp -implicitDefEqProofs [AL,ints]at py
  refine Aa (py) ?_
  simp -implicitDefEqProofs [Cu,Ab]
  have hyr:Py y:=by
   simp at hy
   unfold Py
   omega
  exact hQ ⟨ver,st,y,off⟩ c3 ⟨hl,rv,hrg,hyr⟩ hc3
 by_cases g3:x=3
 ·simp -implicitDefEqProofs [g3,Cu,Ab]
  exact hQ ⟨ver,st,pos,true⟩ c2 ⟨hl,rv,hrg,rp⟩ hc2
 by_cases g4:x=4
 ·simp -implicitDefEqProofs [g4,Cu,Ab]
  exact hQ ⟨ver,[],pos,off⟩ c2 ⟨by simp,rv,(by intro x hx;cases hx),rp⟩ hc2
 simp -implicitDefEqProofs [g0,g1,g2,g3,g4,Cu,Ab]
 exact hQ ⟨ver,st,pos,off⟩ c2 ⟨hl,rv,hrg,rp⟩ hc2
abbrev VX:Prop:=∀c:QM,Dw c->JA R [] c Ana (fun e=> .agg (Ah e))
theorem Alc (hB:CB (D 478)) (hI:Jc (D 481)) (hE:QI (D 488)) (hV:U9 (D 480)) (hX:ZI (D 491)):VX (Body D Lc):=by
 intro c hc
 refine EJ (fun Q hQ=> ?_)
 simp -implicitDefEqProofs
 obtain⟨e,c1,he,hc1,pe⟩:=hE c hc
 simp -implicitDefEqProofs [AL,ints]at pe
 refine Aa (pe) ?_
 obtain⟨vs,ts,pa,cl⟩:=e
 have q1:=he.vers.2.2
 have q2:=he.tags.2.2
 have q3:=he.path.1
 have q4:∀b,b∈pa->Aha b:=fun b hb=>ApC (he.path.2 b hb)
 have r1:=AiJ he.vers (by omega)
 have r2:DK ts:=fun x hx=>by have:=he.tags.2.1 x hx;exact XB (by decide) this
 dsimp only at q1 q2 q3 r1
 simp -implicitDefEqProofs
 obtain⟨x,c2,hx,hc2,px⟩:=hB c1 10 hc1 (by omega)
 simp -implicitDefEqProofs [AL,ints]at px
 refine Aa (px) ?_
 by_cases g0:x=0
 ·simp -implicitDefEqProofs [g0]
  obtain⟨w,c3,hw,hc3,pw⟩:=hV c2 hc2
  simp -implicitDefEqProofs [AL,ints]at pw
  refine Aa (pw) ?_
  simp -implicitDefEqProofs [Cu,Ab]
  exact hQ ⟨w,ts,pa,cl⟩ c3 ⟨⟨hw.1,by dsimp only;omega,by dsimp only;omega,q4⟩,hw.2,r2⟩ hc3
 by_cases g1:x=1
 ·simp -implicitDefEqProofs [g1]
  obtain⟨y,c3,hy,hc3,py⟩:=hI c2 [-1,10,255,256] hc2 (by simp) (by simp)
  simp -implicitDefEqProofs [AL,ints]at py
  refine Aa (py) ?_
  simp -implicitDefEqProofs [Cu,Ab]
  exact hQ ⟨vs,[y],pa,cl⟩ c3 ⟨⟨by dsimp only;omega,by simp,by dsimp only;omega,q4⟩,r1,fun x hx=>by simp at hx;subst hx;exact XB (by decide) hy⟩ hc3
 by_cases g2:x=2
 ·simp -implicitDefEqProofs [g2,Cu,Ab]
  exact hQ ⟨vs,[1,2,3,4,5,6],pa,cl⟩ c2 ⟨⟨by dsimp only;omega,by simp,by dsimp only;omega,q4⟩,r1,fun x hx=>XB (l:=[1,2,3,4,5,6]) (by decide) hx⟩ hc2
 by_cases g3:x=3
 ·simp -implicitDefEqProofs [g3]
  obtain⟨y,c3,hy,hc3,py⟩:=hI c2 [-1,5,6] hc2 (by simp) (by simp)
  simp -implicitDefEqProofs [AL,ints]at py
  refine Aa (py) ?_
  simp -implicitDefEqProofs [Cu,Ab]
  exact hQ ⟨vs,ts,pa,y⟩ c3 ⟨⟨by dsimp only;omega,by dsimp only;omega,by dsimp only;omega,q4⟩,r1,r2⟩ hc3
 by_cases g4:x=4
 ·simp -implicitDefEqProofs [g4]
  obtain⟨b,c3,hb,hc3,pb⟩:=hX c2 hc2
  simp -implicitDefEqProofs [AL,ints]at pb
  refine Aa (pb) ?_
  have hb1:(pa.length+2)*64<=1099511627776:=by omega
  simp -implicitDefEqProofs [hb1,Cu,Ab]
  have:=hQ ⟨vs,ts,pa++ [b,⟨0,[],[],false⟩],cl⟩ c3 ⟨⟨by dsimp only;omega,by dsimp only;omega,by simp;omega,by
   intro b' hb'
   rcases List.mem_append.1 hb' with h | h
   ·exact q4 b' h
   ·simp at h
    rcases h with rfl | rfl
    ·exact hb
    ·exact⟨by simp,by simp⟩⟩,r1,r2⟩ hc3
  simpa[Ah,DT,ints]using this
 simp -implicitDefEqProofs [g0,g1,g2,g3,g4,Cu,Ab]
 exact hQ ⟨vs,ts,pa,cl⟩ c2 ⟨⟨by dsimp only;omega,by dsimp only;omega,by dsimp only;omega,q4⟩,r1,r2⟩ hc2
abbrev Im:Prop:=∀bs:List Int,Aei bs->Rp R bs Ah8 (fun r=> .agg (Dj r))
abbrev Hw:Prop:=∀bs:List Int,Aei bs->Rp R bs Ana (fun e=> .agg (Ah e))
set_option maxHeartbeats 2000000
def through (b:EG) (h:Hello):Bool:=IL b&&(Dt h&& !PK b h)&&h.exts.all fun x=>stays b x.tag
theorem AlW {l:List Ext}:Ej l=true↔((∀x,x∈l->SY x=true)/\l.Pairwise (fun x y=>x.tag≠y.tag))/\l.length<=6:=by
 unfold Ej
 rw[Bool.and_eq_true,decide_eq_true_eq,V7]
 have key:(∀i,i<l.length->Qo l i=true)↔((∀x,x∈l->SY x=true)/\l.Pairwise (fun x y=>x.tag≠y.tag)):=by
  constructor
  ·intro h
   refine⟨fun x hx=> ?_,List.pairwise_iff_getElem.2 fun i j hi hj hij=> ?_⟩
   ·obtain⟨i,hi,rfl⟩:=List.getElem_of_mem hx
    have:=h i hi
    rw[Oo hi,Bool.and_eq_true]at this
    exact this.1
   ·have:=h j hj
    rw[Oo hj,Bool.and_eq_true,Bool.not_eq_true',List.any_eq_false]at this
    have:=this.2 l[i] (List.mem_take_iff_getElem.2 ⟨i,by omega,rfl⟩)
    unfold Gq at this
    simpa using this
  ·rintro ⟨h1,h2⟩ i hi
   rw[Oo hi,Bool.and_eq_true,Bool.not_eq_true',List.any_eq_false]
   refine⟨h1 _ (List.getElem_mem hi),fun x hx=> ?_⟩
   obtain⟨j,hj,rfl⟩:=List.mem_take_iff_getElem.1 hx
   have:=List.pairwise_iff_getElem.1 h2 j i (by omega) hi (by omega)
   unfold Gq
   simpa using this
 rw[key]
theorem Ank (a b:List Int):(leftOf a b).Sublist a:=List.filter_sublist
set_option maxHeartbeats 2000000
structure Al4 (d:BP):Prop where
 ver:Py d.deal.version
 tags:DK d.deal.tags
 tries:Py d.tries
 up:DK d.up
theorem Aob (h seen:Hello) (vs tags:List Int) (key:Int):Py (O1 h seen vs tags key).version/\DK (O1 h seen vs tags key).tags:=by
 unfold O1
 split
 ·rename_i hc
  simp only[Bool.and_eq_true]at hc
  have hf:=hc.2.1
  unfold Fu Kr at hf
  simp only[Bool.and_eq_true,decide_eq_true_eq]at hf
  obtain⟨_,⟨hv,he⟩,_⟩:=hf
  refine⟨Ec (by unfold InV at hv;dsimp only;omega),fun t ht=> ?_⟩
  obtain⟨x,hx,rfl⟩:=List.mem_map.1 ht
  have:=(AlW.1 he).1.1 x hx
  unfold SY at this
  simp only[Bool.and_eq_true,decide_eq_true_eq]at this
  exact Ec (by have:=this.1;unfold M6 at this;omega)
 ·exact⟨Ec (by unfold E9;dsimp only;omega),fun t ht=>by cases ht⟩
theorem AoK (h:Hello) (path:List EG) (vs tags:List Int) (key:Int):Py (Hl h path vs tags key).version/\DK (Hl h path vs tags key).tags:=by
 unfold Hl
 split
 ·exact Aob _ _ _ _ _
 ·exact⟨Ec (by unfold E9;dsimp only;omega),fun t ht=>by cases ht⟩
theorem Ah6 (h:Hello) (path:List EG):0<=(Bg h path).2.1/\(Bg h path).2.1<=2/\((Bg h path).2.2=true->Dt h=true):=by
 unfold Bg
 split
 ·rename_i hh
  split
  ·exact⟨by dsimp only;omega,by dsimp only;omega,fun _=>hh⟩
  ·split
   ·exact⟨by dsimp only;omega,by dsimp only;omega,fun _=>hh⟩
   ·exact⟨by dsimp only;omega,by dsimp only;omega,fun h=>by cases h⟩
 ·exact⟨by dsimp only;omega,by dsimp only;omega,fun h=>by cases h⟩
theorem Ami {h x:Hello} (hh:Dt h=true):DK (JN h x):=by
 intro t ht
 unfold JN at ht
 rcases List.mem_append.1 ht with ht | ht
 ·have:=RF (Adj hh) t ((Ank _ _).subset ht)
  exact Ec (by unfold InV at this;omega)
 ·obtain⟨y,hy,rfl⟩:=List.mem_map.1 ht
  have:=(List.mem_filter.1 hy).2
  unfold Abb inB at this
  simp only[Bool.and_eq_true,decide_eq_true_eq]at this
  have:=this.2
  unfold Py
  unfold M6 at this
  omega
theorem Apg (h:Hello) (path:List EG) (vs tags:List Int) (key:Int):Al4 (Xh h path vs tags key):=by
 have h1:=AoK (Bg h path).1 path vs tags key
 have h2:=Ah6 h path
 unfold Xh
 split
 ·rename_i hc
  exact⟨h1.1,h1.2,Ec (by dsimp only;omega),Ami (h2.2.2 hc)⟩
 ·exact⟨Ec (by unfold E9;dsimp only;omega),(fun t ht=>by cases ht),Ec (by dsimp only;omega),(fun t ht=>by cases ht)⟩
end Go.Eng.T
namespace Go.Eng.T
open Go.Eng.X
def Ak:Nat->Ce
 |0=>R 0 [m f] [] [1]
 |1=>R 1 [m s0,C 460 [r l0] []] [(12,1)] []
 |2=>R 2 [m t] [(1,0)] [0]
 |3=>R 3 [m s0,C 551 [r l0] [0,1],a 2 zD,W 5 l2 l1] [(2,2)] []
 |4=>R 4 [P 5 s2,C 126 [r l0] [],m l1] [(3,2)] []
 |5=>R 5 [m f] [(4,0)] []
 |6=>R 6 [m i0] [(5,0)] []
 |7=>R 7 [m s5,m s3,E l1,y .lss l0 l2] [(13,3)] []
 |8=>R 9 [m s4,m l0,G 1 (m s3),G 1 (m s5),G 1 (.indexS l2 l3),G 1 (y .eql l4 (.con (.sc (.int .u8 33)))),k l1 t l5,m l6] [(4,7)] []
 |9=>R 8 [m s5,y .add l0 i1,m l1] [(5,2)] []
 |10=>T 10 [D (m s4) [] [],D (F s2 4) [] [],D (L l1) [2] [],D (e l2) [1] [],D (y .gtr l3 i0) [] [],D (.beq true l0 l4) [] [],D (m l5) [] [],H 6 (F s2 0) [] [],H 6 (P 3 l7) [2] [],H 6 (C 192 [r l8] []) [0] [],H 6 (y .eql l9 (sb [110,111])) [] [],H 6 (F s2 0) [] [],H 6 (F Iz 0) [] [],H 6 (L K6) [2] [],H 6 (n ME) [] [],H 6 (.beq true l10 P8) [] [],D (k l6 t R5) [] []] [(14,16)] [2,3,4,5]
 |11=>R 11 [m f] [(1,0)] [0]
 |12=>R 12 [m s0,C 552 [r l0] [3],a 4 zR,W 4 l2 l1] [(6,2)] []
 |13=>R 13 [P 4 s6,C 199 [r l0] [],m l1] [(7,2)] []
 |14=>R 14 [m s7,m s7,E l1,y .sub l2 i1,LG.indexS l0 l3,y .eql l4 (.con (.sc (.int .u8 102))),m l5] [(8,6)] [7]
 |15=>R 15 [m i0] [(9,0)] []
 |16=>R 16 [m s0,C 553 [r l0] [5,6,7],C 118 [r l1] [],m l2] [(10,3)] []
 |17=>R 17 [m i0] [(11,0)] []
 |18=>R 18 [m s11,m s10,E l1,y .lss l0 l2] [(15,3)] []
 |19=>R 20 [m s10,m s11,LG.indexS l0 l1,y .eql l2 (.con (.sc (.int .u8 124)))] [(16,3)] []
 |20=>R 21 [m s9,y .add l0 i1,m l1] [(9,2)] []
 |21=>R 19 [m s11,y .add l0 i1,m l1] [(11,2)] []
 |_=>R 22 [m s8,F s6 3,L l1,LG.beq false l0 l2,m l3,J 4 (m s9),J 4 (y .eql l5 i2),k l4 l6 f,m l7,J 8 (C 122 [r (z 1)] []),J 8 (y .eql l9 (sb [45])),k l8 l10 f,m Iz,J 12 (m s0),J 12 (C 554 [r ME] [8,9,10,11,12,13]),J 12 (C 132 [r P8] []),J 12 (y .neq R5 (sb [])),k K6 V6 f,m XK] [(1,18)] [0,6,8,9,10,11]
def Ng:Cm:=⟨17,14,[0],0,false,[],U (Ak 0) (j (U (Ak 1) (hs 12 (ur (Ak 2)))) (U (Ak 3) (U (Ak 4) (U (Ak 5) (j (U (Ak 6) (.block 0 (.loop (j (U (Ak 7) (h 13 sk (.exit 0))) (j (.block 1 (d (Ak 8))) (d (Ak 9))))))) (j (U (Ak 10) (hs 14 (ur (Ak 11)))) (U (Ak 12) (U (Ak 13) (U (Ak 14) (U (Ak 15) (U (Ak 16) (j (U (Ak 17) (.block 2 (.loop (j (U (Ak 18) (h 15 sk (.exit 2))) (j (.block 3 (U (Ak 19) (hs 16 (d (Ak 20))))) (d (Ak 21))))))) (ur (Ak 22)))))))))))))),[.slot 1]⟩
def Yk:List Tmp:=[0,2,3,4,5,6,7,8,9,10,11,12,14,22,48,65,71]
def En:Nat->Ce
 |0=>R 0 [a 0 zD] [(1,0)] []
 |1=>R 1 [m s0,C 556 [r l0] [1,2,3,4],m l1,X l2 0,X l2 1,a 5 zD,a 6 zD,W 5 l5 l3,W 5 l6 l4] [(2,5)] [0]
 |_=>R 2 [P 5 s2,W 5 s1 l0] [] [2]
def EK:Cm:=⟨3,7,[0],0,false,[],U (En 0) (U (En 1) (ur (En 2))),[.cell 1 (some 5)]⟩
def M7:List Tmp:=[0,2,3]
def Fp:Nat->Ce
 |0=>R 0 [a 0 zR] [(1,0)] []
 |_=>R 1 [m s0,C 557 [r l0] [1],W 4 s1 l1] [] [0]
def Ez:Cm:=⟨2,2,[0],0,false,[],U (Fp 0) (ur (Fp 1)),[.cell 1 (some 4)]⟩
def MC:List Tmp:=[0,2]
def Gf:Nat->Ce
 |0=>R 0 [a 0 zE] [(1,0)] []
 |_=>R 1 [m s0,C 558 [r l0] [1,2,3],W 4 s1 l1] [] [0]
def FH:Cm:=⟨2,4,[0],0,false,[],U (Gf 0) (ur (Gf 1)),[.cell 1 (some 4)]⟩
def Qb:List Tmp:=[0,2]
def Ey:Nat->Ce
 |0=>R 0 [a 0 zW] [(1,0)] []
 |1=>R 1 [m s0,C 473 [r l0] [1],m l1] [(2,2)] [0]
 |_=>R 2 [m s2,C 477 [v l0] [2,3,4,5,6,7],W 15 s1 l1] [] [2]
def Ff:Cm:=⟨3,8,[0],0,false,[],U (Ey 0) (U (Ey 1) (ur (Ey 2))),[.cell 1 (some 15)]⟩
def NW:List Tmp:=[0,2,3]
def Bw:Nat->Ce
 |0=>R 0 [a 0 zD,a 1 zD] [(1,0),(2,1)] []
 |1=>R 1 [m s0,C 560 [r l0] [2,3,4,5,6],m l1,X l2 0,X l2 1,X l2 2,X l2 3,X l2 4,a 7 [N 1,N 2],W 2 l8 l3,m l4,m l5,m l6,m l7] [(3,8),(4,10),(5,11),(6,12),(7,13)] []
 |2=>R 2 [m s0,C 473 [r l0] [8],m l1] [(8,2)] [0]
 |3=>R 3 [P 2 s3,m s4,m s5,m s6,m s7,C 252 [r l0,r l1,r l2,r l3,r l4] [9,10],a 11 zD,W 5 l6 l5] [(9,6)] []
 |4=>R 4 [m s8,C 474 [v l0,r i2] []] [(10,1)] [8]
 |5=>T 5 [D (P 5 s9) [11] [],D (P 2 s3) [7] [],D (m s5) [] [],D (m s6) [] [],D (m s7) [] [],D (C 252 [r l1,r (z 4),r l2,r l3,r l4] [12,13]) [2,3,5,6,12,13] [12,13],D (W 5 s1 l0) [0] [0],D (W 5 s2 l5) [1] [1]] [] [3,4,5,6,7,9]
 |_=>T 6 [D (P 5 s9) [11] [],D (P 2 s3) [7] [],D (m s4) [] [],D (m s5) [] [],D (m s6) [] [],D (m s7) [] [],D (C 252 [r l1,r l2,r l3,r l4,r l5] [14,15]) [2,3,4,5,6,14,15] [14,15],D (W 5 s1 l0) [0] [0],D (W 5 s2 l6) [1] [1]] [] [3,4,5,6,7,9]
def Fa:Cm:=⟨11,16,[0],0,false,[],U (Bw 0) (U (Bw 1) (U (Bw 2) (U (Bw 3) (j (U (Bw 4) (hs 10 (ur (Bw 5)))) (ur (Bw 6)))))),[.cell 1 (some 5),.cell 2 (some 5)]⟩
def Ox:List Tmp:=[0,2,3,4,5,6,7,8,9,10,28]
def Fb:Nat->Ce
 |0=>R 0 [a 0 zR] [(1,0)] []
 |1=>R 1 [m s0,C 473 [r l0] [1],m l1] [(2,2)] [0]
 |_=>R 2 [m s2,C 483 [v l0] [2],W 4 s1 l1] [] [2]
def FK:Cm:=⟨3,3,[0],0,false,[],U (Fb 0) (U (Fb 1) (ur (Fb 2))),[.cell 1 (some 4)]⟩
def Qj:List Tmp:=[0,2,3]
def EI:Nat->Ce
 |0=>R 0 [a 0 zE] [(1,0)] []
 |1=>R 1 [m s0,C 473 [r l0] [1],m l1] [(2,2)] [0]
 |_=>R 2 [m s2,C 482 [v l0] [2,3,4],W 4 s1 l1] [] [2]
def Fx:Cm:=⟨3,5,[0],0,false,[],U (EI 0) (U (EI 1) (ur (EI 2))),[.cell 1 (some 4)]⟩
def Ph:List Tmp:=[0,2,3]
def Bj:Nat->Ce
 |0=>R 0 [a 0 [N 1,N 2],m (z 4),m (z 1),m (z 1),m i0] [(1,0)] [2,3,4,5]
 |1=>R 1 [m s0,C 473 [r l0] [1],m l1] [(6,2)] [0]
 |2=>Q 2 [m s6,C 561 [v l0] [2,3],a 4 [N 1,N 2],W 2 l2 l1] [(7,2)] [] [] [w 2 11,w 3 12]
 |3=>R 3 [m s6,C 493 [v l0] [5],m l1] [(8,2)] []
 |4=>R 4 [m s6,C 490 [v l0] [6],m l1] [(9,2)] []
 |5=>R 5 [m s6,C 489 [v l0] [7],m l1] [(10,2)] []
 |6=>R 6 [m s6,C 474 [v l0,r (i 9)] []] [(11,1)] []
 |7=>Q 7 [m s6,C 562 [v l0] [8,9],W 2 s7 l1] [] [] [] [w 8 11,w 9 12]
 |_=>T 8 [D (P 2 s7) [4] [],D (m s8) [] [],D (m s9) [] [],D (m s10) [] [],D (m s6) [] [],D (M 10 1 4 [i 5,i 77,i 77,i0]) [10] [10],D (C 481 [v l4,r l5] []) [1,10] [1],D (W 2 s1 l0) [0] [0],D (m l1) [] [],D (m l2) [] [],D (m l3) [] [],D (m l6) [] []] [(2,8),(3,9),(4,10),(5,11)] [6,7,8,9,10]
def FW:Cm:=⟨12,13,[0],0,false,[],U (Bj 0) (U (Bj 1) (U (Bj 2) (U (Bj 3) (U (Bj 4) (U (Bj 5) (j (U (Bj 6) (hs 11 (d (Bj 7)))) (ur (Bj 8)))))))),[.cell 1 (some 2),.slot 2,.slot 3,.slot 4,.slot 5]⟩
def QF:List Tmp:=[0,2,3,4,5,6,7,8,9,10,11,23]
def KE:Nat->Ce
 |0=>R 0 [a 1 [N 1,N 2]] [(1,0)] []
 |_=>R 1 [m s0,C 490 [v l0] [2],m s0,C 563 [v l2] [3],b [N 1,N 2] [(0,1,l1),(1,1,l3)],W 2 s1 l4] [] [0]
def JR:Cm:=⟨2,4,[0],1,false,[],U (KE 0) (ur (KE 1)),[.cell 1 (some 2)]⟩
def Zb:List Tmp:=[0,2]
def DV:Nat->Ce
 |0=>R 0 [a 1 [N 1,N 2]] [(1,0)] []
 |1=>Q 1 [m s0,C 561 [v l0] [2,3],a 4 [N 1,N 2],W 2 l2 l1] [(2,2)] [] [] [w 2 8,w 3 7]
 |2=>R 2 [m s0,C 478 [v l0,r (i 6)] []] [(3,1)] []
 |3=>R 3 [y .eql s3 i0,m l0] [(4,1)] []
 |4=>Q 4 [m s0,C 480 [v l0] [5],F s2 0,W 1 l2 l1] [] [0,3] [] [w 5 8]
 |5=>R 5 [y .eql s3 i1,m l0] [(5,1)] [3]
 |6=>Q 6 [m s0,C 564 [v l0] [6],F s2 1,W 1 l2 l1] [] [0] [] [w 6 7]
 |_=>R 7 [P 2 s2,W 2 s1 l0] [] [2]
def Lf:Cm:=⟨6,9,[0],1,false,[],U (DV 0) (U (DV 1) (j (U (DV 2) (.block 0 (U (DV 3) (h 4 (d (DV 4)) (U (DV 5) (hs 5 (d (DV 6)))))))) (ur (DV 7)))),[.cell 1 (some 2)]⟩
def ZY:List Tmp:=[0,2,3,7,8,13]
def BF:Nat->Ce
 |0=>R 0 [m (z 2)] [] [1]
 |1=>Q 1 [M 1 2 0 [],m l0] [(2,1)] [] [] [w 1 9]
 |2=>R 2 [m s0,C 478 [v l0,r (i 6)] [],m l1] [(3,2)] []
 |3=>R 3 [m s3,y .gtr l0 i0] [(6,1)] []
 |4=>Q 5 [m s0,M 2 1 8 [i1,i2,i 3,i 10,i 26,i 40,i 42,i 200],C 481 [v l0,r l1] [],b [o,N 1] [(0,1,l2)],a 3 [o,N 1],W 2 l4 l3] [(4,4)] [] [2,3,8] [.ownc 3 1 8]
 |5=>R 6 [m s0,C 478 [v l0,r (i 4)] [],m l1] [(5,2)] []
 |6=>R 7 [m s5,y .gtr l0 i0] [(7,1)] []
 |7=>Y 9 [D (F s4 1) [] [],D (L l0) [3] [],D (m s0) [] [],D (C 478 [v l2,r (i 256)] []) [0] [0],D (M 4 1 1 [l3]) [4] [4],D (q 5 1 8 l1 l4) [4,5,8] [5,8],D (F s4 1) [] [],D (W 1 l6 l5) [3] [3]] [] [] [4,5] [w 5 8]
 |8=>R 8 [m s5,y .sub l0 i1,m l1] [(5,2)] []
 |9=>R 10 [m s2,F s4 0,L l1,C 309 [r l0,r l2] [],y .lss l3 i0] [(8,4)] [5]
 |10=>Q 11 [m s2,P 2 s4,M 6 2 1 [l1],p 7 2 32 l0 l2,m l3] [(2,4)] [4] [6,7] [w 7 9]
 |11=>R 4 [m s3,y .sub l0 i1,m l1] [(3,2)] []
 |_=>R 12 [m s2,m l0] [(1,1)] [0,2,3]
def La:Cm:=⟨9,10,[0],1,false,[],U (BF 0) (U (BF 1) (j (U (BF 2) (.block 0 (.loop (j (U (BF 3) (h 6 sk (.exit 0))) (j (.block 1 (U (BF 4) (j (U (BF 5) (.block 2 (.loop (j (U (BF 6) (h 7 sk (.exit 2))) (j (.block 3 (d (BF 7))) (d (BF 8))))))) (U (BF 9) (hs 8 (d (BF 10))))))) (d (BF 11))))))) (ur (BF 12)))),[.slot 1]⟩
def Aa9:List Tmp:=[0,2,3,4,5,6,11,21,35]
def Bz:Nat->Ce
 |0=>R 0 [m (z 2)] [] [1]
 |1=>Q 1 [m s0,C 563 [v l0] [1],m l1] [(2,2)] [] [] [w 1 10]
 |2=>R 2 [m s2,e l0,y .eql l1 i0] [(4,2)] []
 |3=>R 3 [m s2,m l0] [(1,1)] [0,2]
 |4=>R 4 [m s0,m s2,e l1,C 478 [v l0,r l2] [],m l3] [(3,4)] []
 |5=>R 5 [m s0,C 478 [v l0,r (i 9)] []] [(5,1)] []
 |6=>R 6 [y .eql s5 i0,m l0] [(6,1)] []
 |7=>R 7 [m s2,m s3,m s0,M 2 1 4 [i (-1),i0,i 255,i 256],C 481 [v l2,r l3] [],A 2 l0 l1,F l5 0,W 1 l6 l4] [] [0,3,5]
 |8=>R 8 [y .eql s5 i1,m l0] [(7,1)] []
 |9=>T 9 [D (m s2) [] [],D (m s3) [] [],D (m s2) [] [],D (m s3) [] [],D (A 2 l2 l3) [10] [],D (F l4 1) [] [],D (.take 6 l5) [6,10] [6,10],D (m s0) [] [],D (M 3 1 3 [i (-1),i 255,i 256]) [3] [3],D (.callp 481 [v l7,r l8] []) [0,3] [0],D (M 4 1 1 [l9]) [4] [4],D (q 5 1 8 l6 l10) [4,5,6] [5,6],D (A 2 l0 l1) [10] [],D (F K6 1) [] [],D (W 1 ME Iz) [5,6,10] [5,10]] [] [0,3,5]
 |10=>R 10 [y .eql s5 i2,m l0] [(8,1)] [0]
 |11=>R 11 [m s2,m s3,M 7 1 5 [i1,i2,i 3,i 4,i 5],A 2 l0 l1,F l3 1,W 1 l4 l2] [] [3,5]
 |12=>R 12 [y .eql s5 (i 3),m l0] [(9,1)] [3,5]
 |13=>Q 13 [m s2,m s2,A 2 l1 i0,F l2 0,L l3,b [o,N 1] [(0,1,l4)],M 8 2 1 [l5],p 9 2 32 l0 l6,m l7] [(2,8)] [] [] [w 9 10]
 |_=>R 14 [m s2,m l0] [(1,1)] [2]
def MG:Cm:=⟨10,11,[0],1,false,[6],U (Bz 0) (U (Bz 1) (j (U (Bz 2) (hs 4 (ur (Bz 3)))) (U (Bz 4) (j (U (Bz 5) (.block 0 (U (Bz 6) (h 6 (d (Bz 7)) (U (Bz 8) (h 7 (d (Bz 9)) (U (Bz 10) (h 8 (d (Bz 11)) (U (Bz 12) (hs 9 (d (Bz 13)))))))))))) (ur (Bz 14)))))),[.slot 1]⟩
def AcR:List Tmp:=[0,2,3,4,9,16,17,26,42,49]
attribute [simp] Ak Ng En EK Fp Ez Gf FH Ey Ff Bw Fa Fb FK EI Fx Bj FW KE JR DV Lf BF La Bz MG
end Go.Eng.T
namespace Go.Eng.T
set_option maxRecDepth 20000
set_option maxHeartbeats 4000000
def AcN (m:Nat) (l:List Ext):Prop:=l.length<=m/\∀x,x∈l->x.body.length<=5
def AbZ (m:Nat) (l:List Ext):Prop:=l.length<=m/\∀x,x∈l->x.body.length<=3
theorem Alu {m:Nat} {l:List Ext} {x:Ext} (h:AbZ m l) (hx:x.body.length<=3):AbZ (m+1) (l++ [x]):=by
 refine⟨by rw[List.length_append];have:=h.1;simp;omega,fun y hy=> ?_⟩
 rcases List.mem_append.1 hy with hy | hy
 ·exact h.2 y hy
 ·simp at hy;subst hy;exact hx
theorem Aaq {m m':Nat} {l:List Ext} (h:AbZ m l) (hm:m<=m'):AbZ m' l:=⟨by have:=h.1;omega,h.2⟩
theorem Agm {m:Nat} {l:List Ext} (h:AbZ m l):AcN m l:=⟨h.1,fun x hx=>by have:=h.2 x hx;omega⟩
theorem Amd {m:Nat} {l:List Ext} {x:Ext} (h:AcN m l) (hx:x.body.length<=5):AcN (m+1) (l++ [x]):=by
 refine⟨by rw[List.length_append];have:=h.1;simp;omega,fun y hy=> ?_⟩
 rcases List.mem_append.1 hy with hy | hy
 ·exact h.2 y hy
 ·simp at hy;subst hy;exact hx
theorem Rx {m m':Nat} {l:List Ext} (h:AcN m l) (hm:m<=m'):AcN m' l:=⟨by have:=h.1;omega,h.2⟩
variable (R:Rel)
abbrev UE:Prop:=∀c:QM,Dw c->JA R [] c (AbZ 5) (fun l=> .sl 0 2 l.length (l.flatMap Cc))
variable (D:Dn)
theorem Anw (hB:CB (D 478)) (hI:Jc (D 481)) (hE:Rj (D 309)):UE (Body D La):=by
 intro c hc
 refine EJ (fun Q hQ=> ?_)
 simp -implicitDefEqProofs
 obtain⟨y,c1,hy,hc1,py⟩:=hB c 6 hc (by omega)
 simp -implicitDefEqProofs [AL,ints]at py
 refine Aa (py) ?_
 have hy6:=hy.2.2 (by omega)
 obtain⟨n,rfl⟩:∃n:Nat,y=n:=⟨y.toNat,by omega⟩
 simp -implicitDefEqProofs
 obtain⟨LI,hLI⟩:∃LI:Nat->St->Prop,LI=fun k s=>∃(j:Nat) (cc:QM) (l:List Ext) (v4:V) (o2 o3 o4 o6 o8:O),j+k=n/\Dw cc/\AbZ j l/\s=⟨[.ptr 0 0,.undef,.arr 9,I k,v4,.undef,.undef,.undef,.undef],[.var (AL cc),.free,o2,o3,o4,.free,o6,.free,o8,.arr 2 0 l.length (l.flatMap Cc)]⟩:=⟨_,rfl⟩
 refine Ag LI ?_ (n) _ (by rw[hLI];exact⟨0,c1,[],.undef,.free,.free,.free,.free,.free,by simp,hc1,⟨by simp,by simp⟩,by simp[ints]⟩)
 intro k s hs
 rw[hLI]at hs
 obtain⟨j,cc,l,v4,o2,o3,o4,o6,o8,hj,hcc,hl,hs⟩:=hs
 subst hs
 by_cases hk:0<k
 rotate_left
 ·have hk0:k=0:=by omega
  subst hk0
  simp -implicitDefEqProofs [Cu,Ab]
  exact hQ l cc (Aaq hl (by omega)) hcc
 have hwk:IntKind.i64.wrap ((k:Int)-1)=(k-1:Nat):=by rw[Ad (by omega) (by omega)];omega
 simp -implicitDefEqProofs [hk]
 obtain⟨t,c2,ht,hc2,pt⟩:=hI cc [1,2,3,10,26,40,42,200] hcc (by simp) (by simp)
 simp -implicitDefEqProofs [AL,ints]at pt
 refine Aa (pt) ?_
 clear pt
 simp -implicitDefEqProofs
 obtain⟨q,c3,hq,hc3,pq⟩:=hB c2 4 hc2 (by omega)
 simp -implicitDefEqProofs [AL,ints]at pq
 refine Aa (pq) ?_
 clear pq
 have hq4:=hq.2.2 (by omega)
 obtain⟨m,rfl⟩:∃m:Nat,q=m:=⟨q.toNat,by omega⟩
 simp -implicitDefEqProofs
 obtain⟨LJ,hLJ⟩:∃LJ:Nat->St->Prop,LJ=fun k2 s=>∃(i:Nat) (cd:QM) (b:List Int) (o2 o4 o6:O),i+k2=m/\Dw cd/\b.length=i/\s=⟨[.ptr 0 0,.undef,.arr 9,I k,.ptr 3 0,I k2,.undef,.undef,.undef],[.var (AL cd),.free,o2,.var [I t,.arr 8],o4,.free,o6,.free,.arr 1 0 b.length (ints b),.arr 2 0 l.length (l.flatMap Cc)]⟩:=⟨_,rfl⟩
 refine Ag LJ ?_ (m) _ (by rw[hLJ];exact⟨0,c3,[],_,_,_,by simp,hc3,rfl,by simp[ints];exact⟨rfl,rfl,rfl⟩⟩)
 intro k2 s hs
 rw[hLJ]at hs
 obtain⟨i,cd,b,p2,p4,p6,hi,hcd,hbl,hs⟩:=hs
 subst hs
 by_cases hk2:0<k2
 ·have hwk2:IntKind.i64.wrap ((k2:Int)-1)=(k2-1:Nat):=by rw[Ad (by omega) (by omega)];omega
  have hb1:(b.length+1)*8<=1099511627776:=by omega
  simp -implicitDefEqProofs [hk2]
  obtain⟨v,c4,hv,hc4,pv⟩:=hB cd 256 hcd (by omega)
  simp -implicitDefEqProofs [AL,ints]at pv
  refine Aa (pv) ?_
  clear pv
  simp -implicitDefEqProofs [hb1,hwk2]
  refine⟨k2-1,by omega,?_⟩
  rw[hLJ]
  exact⟨i+1,c4,b++ [v],_,_,_,by omega,hc4,by simp[hbl],by simp[ints];exact⟨rfl,rfl,rfl⟩⟩
 have hk20:k2=0:=by omega
 subst hk20
 simp -implicitDefEqProofs
 have hll:=hl.1
 have pe:=hE l t (by unfold maxLen;omega)
 refine Aa (pe) ?_
 clear pe
 by_cases hx:K7 l t<0
 ·have hb2:(l.length+1)*32<=1099511627776:=by omega
  simp -implicitDefEqProofs [hx,hb2,hwk]
  refine⟨k-1,by omega,?_⟩
  rw[hLI]
  exact⟨j+1,cd,l++ [⟨t,b⟩],_,_,_,_,_,_,by omega,hcd,Alu hl (by dsimp only;omega),by simp[Cc,ints];exact⟨rfl,rfl,rfl,rfl,rfl,rfl⟩⟩
 ·simp -implicitDefEqProofs [hx,hwk]
  refine⟨k-1,by omega,?_⟩
  rw[hLI]
  exact⟨j+1,cd,l,_,_,_,_,_,_,by omega,hcd,Aaq hl (by omega),by simp[ints];exact⟨rfl,rfl,rfl,rfl,rfl,rfl⟩⟩
theorem AnZ {xs:List Ext} {j:Nat} (h:j<xs.length) (a:Int):(xs.flatMap Cc).set (j*2) (.sc (.int .i64 a))=(xs.set j ⟨a,xs[j].body⟩).flatMap Cc:=BA (o:=0) Mi (by omega) h rfl
theorem Ajx {xs:List Ext} {j:Nat} (h:j<xs.length) {n:Nat} (a:List Int) (hn:n=a.length):(xs.flatMap Cc).set (j*2+1) (.sl 0 1 n (ints a))=(xs.set j ⟨xs[j].tag,a⟩).flatMap Cc:=by subst hn;exact BA (o:=1) Mi (by omega) h rfl
theorem AaW {m:Nat} {l:List Ext} {j:Nat} {x:Ext} (h:AcN m l) (hx:x.body.length<=5):AcN m (l.set j x):=by
 refine⟨by simpa using h.1,fun y hy=> ?_⟩
 rcases List.mem_or_eq_of_mem_set hy with hy | rfl
 ·exact h.2 y hy
 ·exact hx
abbrev Afl:Prop:=∀c:QM,Dw c->JA R [] c (AcN 6) (fun l=> .sl 0 2 l.length (l.flatMap Cc))
theorem AoQ (hB:CB (D 478)) (hI:Jc (D 481)) (hL:UE (D 563)):Afl (Body D MG):=by
 intro c hc
 refine EJ (fun Q hQ=> ?_)
 simp -implicitDefEqProofs
 obtain⟨l,c1,hl,hc1,pl⟩:=hL c hc
 simp -implicitDefEqProofs [AL,ints]at pl
 refine Aa (pl) ?_
 clear pl
 simp -implicitDefEqProofs
 have hll:=hl.1
 have hsm5:=Agm hl
 have hsm:=Rx hsm5 (show 5<=6 by omega)
 by_cases h0:l.length=0
 ·have hnil:=List.eq_nil_of_length_eq_zero h0
  subst hnil
  simp -implicitDefEqProofs [Cu,Ab]
  exact hQ [] c1 ⟨by simp,by simp⟩ hc1
 have h0':¬l=[]:=by rintro rfl;simp at h0
 simp -implicitDefEqProofs [h0,h0']
 obtain⟨i,c2,hi,hc2,pi⟩:=hB c1 l.length hc1 (by omega)
 simp -implicitDefEqProofs [AL,ints]at pi
 refine Aa (pi) ?_
 clear pi
 have hil:=hi.2.2 (by omega)
 obtain⟨i,rfl⟩:∃m:Nat,i=m:=⟨i.toNat,by omega⟩
 have hin:i<l.length:=by omega
 simp -implicitDefEqProofs
 obtain⟨x,c3,hx,hc3,px⟩:=hB c2 9 hc2 (by omega)
 simp -implicitDefEqProofs [AL,ints]at px
 refine Aa (px) ?_
 clear px
 by_cases g0:x=0
 ·simp -implicitDefEqProofs [g0]
  obtain⟨y,c4,hy,hc4,py⟩:=hI c3 [-1,0,255,256] hc3 (by simp) (by simp)
  simp -implicitDefEqProofs [AL,ints]at py
  refine Aa (py) ?_
  simp -implicitDefEqProofs [hin,Cu,Ab]
  have:=hQ (l.set i ⟨y,l[i].body⟩) c4 (AaW hsm (by have:=hsm.2 _ (List.getElem_mem hin);exact this)) hc4
  rw[<-AnZ hin]at this
  simpa[AL]using this
 by_cases g1:x=1
 ·simp -implicitDefEqProofs [g1,hin]
  obtain⟨y,c4,hy,hc4,py⟩:=hI c3 [-1,255,256] hc3 (by simp) (by simp)
  simp -implicitDefEqProofs [AL,ints]at py
  have hbd:=hl.2 _ (List.getElem_mem hin)
  have hb1:(l[i].body.length+1)*8<=1099511627776:=by omega
  have hi1:i*2+1<l.length*2:=by omega
  refine Aa (py) ?_
  simp -implicitDefEqProofs [hin,hi1,hb1,Cu,Ab]
  have:=hQ (l.set i ⟨l[i].tag,l[i].body++ [y]⟩) c4 (AaW hsm (by simp;omega)) hc4
  rw[<-Ajx hin _ rfl]at this
  simpa[AL]using this
 by_cases g2:x=2
 ·have hi1:i*2+1<l.length*2:=by omega
  simp -implicitDefEqProofs [g2,hin,hi1,Cu,Ab]
  have:=hQ (l.set i ⟨l[i].tag,[1,2,3,4,5]⟩) c3 (AaW hsm (by simp)) hc3
  rw[<-Ajx hin _ rfl]at this
  simpa[AL,ints]using this
 by_cases g3:x=3
 ·have hz:0<l.length:=by omega
  have hb2:(l.length+1)*32<=1099511627776:=by omega
  have hc0:=Aok hz
  rw[Nat.zero_mul]at hc0
  have hc0':(l.flatMap Cc)[0]'(by rw[LF];omega)= .sc (.int .i64 l[0].tag):=by
   rw[List.getElem?_eq_getElem (by rw[LF];omega)]at hc0
   exact Option.some.inj hc0
  simp -implicitDefEqProofs [g3,hz,hb2,hc0',Cu,Ab]
  have:=hQ (l++ [⟨l[0].tag,[]⟩]) c3 (Amd hsm5 (by simp)) hc3
  simpa[AL,ints,Cc]using this
 simp -implicitDefEqProofs [g0,g1,g2,g3,Cu,Ab]
 exact hQ l c3 hsm hc3
set_option maxHeartbeats 4000000
structure Aj1 (h:Hello):Prop where
 vers:h.versions.length<=5
 exts:AcN 6 h.exts
theorem Agb {h:Hello} (hh:Aj1 h):hB h:=⟨by have:=hh.vers;omega,by have:=hh.exts.1;omega,fun x hx=>by have:=hh.exts.2 x hx;omega⟩
abbrev Rf:Prop:=∀c:QM,Dw c->JA R [] c (fun h:Hello=>h.versions.length<=4/\AcN 5 h.exts) (fun h=> .agg (Ck h))
theorem Aku (hV:Ki (D 490)) (hX:UE (D 563)):Rf (Body D JR):=by
 intro c hc
 refine EJ (fun Q hQ=> ?_)
 simp -implicitDefEqProofs
 obtain⟨v,c1,hv,hc1,pv⟩:=hV c hc
 simp -implicitDefEqProofs [AL,ints]at pv
 refine Aa (pv) ?_
 clear pv
 simp -implicitDefEqProofs
 obtain⟨l,c2,hl,hc2,pl⟩:=hX c1 hc1
 simp -implicitDefEqProofs [AL,ints]at pl
 refine Aa (pl) ?_
 clear pl
 simp -implicitDefEqProofs [Cu,Ab]
 exact hQ ⟨v,l⟩ c2 ⟨hv.1.2.2,Agm hl⟩ hc2
abbrev Zv:Prop:=∀c:QM,Dw c->JA R [] c Aj1 (fun h=> .agg (Ck h))
theorem Ann (hB:CB (D 478)) (hH:Rf (D 561)) (hV:ZJ (D 480)) (hX:Afl (D 564)):Zv (Body D Lf):=by
 intro c hc
 refine EJ (fun Q hQ=> ?_)
 simp -implicitDefEqProofs
 obtain⟨⟨v,l⟩,c1,⟨hv,hl⟩,hc1,ph⟩:=hH c hc
 dsimp only at hv hl
 simp -implicitDefEqProofs [AL,ints]at ph
 refine Aa (ph) ?_
 clear ph
 simp -implicitDefEqProofs
 obtain⟨x,c2,hx,hc2,px⟩:=hB c1 6 hc1 (by omega)
 simp -implicitDefEqProofs [AL,ints]at px
 refine Aa (px) ?_
 clear px
 by_cases g0:x=0
 ·simp -implicitDefEqProofs [g0]
  obtain⟨w,c3,hw,hc3,pw⟩:=hV c2 hc2
  simp -implicitDefEqProofs [AL,ints]at pw
  refine Aa (pw) ?_
  simp -implicitDefEqProofs [Cu,Ab]
  exact hQ ⟨w,l⟩ c3 ⟨hw,Rx hl (by omega)⟩ hc3
 by_cases g1:x=1
 ·simp -implicitDefEqProofs [g1]
  obtain⟨w,c3,hw,hc3,pw⟩:=hX c2 hc2
  simp -implicitDefEqProofs [AL,ints]at pw
  refine Aa (pw) ?_
  simp -implicitDefEqProofs [Cu,Ab]
  exact hQ ⟨v,w⟩ c3 ⟨by dsimp only;omega,hw⟩ hc3
 simp -implicitDefEqProofs [g0,g1,Cu,Ab]
 exact hQ ⟨v,l⟩ c2 ⟨by dsimp only;omega,Rx hl (by omega)⟩ hc2
structure Art (p:Hello×List EG×List Int×List Int×Int):Prop where
 hel:Aj1 p.1
 path:TK p.2.1 3
 vers:p.2.2.1.length<=4
 tags:p.2.2.2.1.length<=4
abbrev Aru (p:Hello×List EG×List Int×List Int×Int):V:= .tup [.agg (Ck p.1),.sl 0 4 p.2.1.length (p.2.1.flatMap DT),.sl 0 1 p.2.2.1.length (ints p.2.2.1),.sl 0 1 p.2.2.2.1.length (ints p.2.2.2.1),I p.2.2.2.2]
abbrev JL:Prop:=∀bs:List Int,Aei bs->Rp R bs Art Aru
theorem ZW (hN:Qk (D 473)) (hH:Rf (D 561)) (hP:Qp (D 493)) (hV:Ki (D 490)) (hT:Oc (D 489)) (hO:Uk (D 474)) (hA:Zv (D 562)) (hI:Jc (D 481)):JL (Body D FW):=by
 intro bs hb
 refine MU (fun Q hQ=> ?_)
 simp -implicitDefEqProofs
 obtain⟨c0,hc0,pc0⟩:=hN bs hb.1 hb.2
 simp -implicitDefEqProofs [AL,ints]at pc0
 refine Aa (pc0) ?_
 simp -implicitDefEqProofs
 obtain⟨⟨v,l⟩,c1,⟨hv,hl⟩,hc1,ph⟩:=hH c0 hc0
 dsimp only at hv hl
 simp -implicitDefEqProofs [AL,ints]at ph
 refine Aa (ph) ?_
 clear ph
 simp -implicitDefEqProofs
 obtain⟨pa,c2,hpa,hc2,pp⟩:=hP c1 hc1
 simp -implicitDefEqProofs [AL,ints]at pp
 refine Aa (pp) ?_
 clear pp
 simp -implicitDefEqProofs
 obtain⟨vs,c3,hvs,hc3,pv⟩:=hV c2 hc2
 simp -implicitDefEqProofs [AL,ints]at pv
 refine Aa (pv) ?_
 clear pv
 simp -implicitDefEqProofs
 obtain⟨ts,c4,hts,hc4,pt⟩:=hT c3 hc3
 simp -implicitDefEqProofs [AL,ints]at pt
 refine Aa (pt) ?_
 clear pt
 simp -implicitDefEqProofs
 obtain⟨q,c5,hq,hc5,pq⟩:=hO c4 9 hc4 (by omega)
 simp -implicitDefEqProofs [AL,ints]at pq
 refine Aa (pq) ?_
 clear pq
 have hvl:=hvs.1.2.2
 have htl:=hts.2.2
 by_cases g:q=true
 ·simp -implicitDefEqProofs [g]
  obtain⟨⟨v2,l2⟩,c6,hh,hc6,ph⟩:=hA c5 hc5
  simp -implicitDefEqProofs [AL,ints]at ph
  refine Aa (ph) ?_
  clear ph
  simp -implicitDefEqProofs
  obtain⟨k,c7,hk,hc7,pk⟩:=hI c6 [5,77,77,0] hc6 (by simp) (by simp)
  simp -implicitDefEqProofs [AL,ints]at pk
  refine Aa (pk) ?_
  simp -implicitDefEqProofs
  exact hQ (⟨v2,l2⟩,pa,vs,ts,k) ⟨hh,hpa,hvl,htl⟩
 ·simp -implicitDefEqProofs [g]
  obtain⟨k,c7,hk,hc7,pk⟩:=hI c5 [5,77,77,0] hc5 (by simp) (by simp)
  simp -implicitDefEqProofs [AL,ints]at pk
  refine Aa (pk) ?_
  simp -implicitDefEqProofs
  exact hQ (⟨v,l⟩,pa,vs,ts,k) ⟨⟨by dsimp only;omega,Rx hl (by omega)⟩,hpa,hvl,htl⟩
set_option maxHeartbeats 4000000
structure AmG (d:BP):Prop where
 rg:Al4 d
 sz:Cb d<=100
theorem AmI {p:List EG} (h:TK p 3):lnS Kh p:=by
 have h1:=Am0 (l:=p) (fun b hb=>ApC (h.2 b hb))
 have h2:=h.1
 exact Aeg (by omega)
theorem Aqu {h:Hello} {p:List EG} {vs tags:List Int} {key:Int} (hh:Aj1 h):AmG (Xh h p vs tags key):=
 ⟨Apg _ _ _ _ _,by have:=Amo h p vs tags key;have:=hh.vers;have:=hh.exts.1;omega⟩
abbrev Gz:Prop:=∀bs:List Int,Aei bs->Rp R bs (fun p:BP×BP=>AmG p.1) (fun p=> .tup [.agg (AB p.1),.agg (AB p.2)])
theorem Us (hN:Qk (D 473)) (hA:JL (D 560)) (hO:Uk (D 474)) (hD:AfC (D 252)):Gz (Body D Fa):=by
 intro bs hb
 refine MU (fun Q hQ=> ?_)
 simp -implicitDefEqProofs
 obtain⟨⟨⟨v,l⟩,pa,vs,ts,k⟩,hp,pp⟩:=hA bs hb
 obtain⟨hh,hpa,hvs,hts⟩:=hp
 dsimp only at hh hpa hvs hts
 have hvl:=hh.vers
 have hxl:=hh.exts.1
 have hpl:=hpa.1
 simp -implicitDefEqProofs [Aru,ints]at pp
 refine Aa (pp) ?_
 clear pp
 simp -implicitDefEqProofs
 obtain⟨c0,hc0,pc0⟩:=hN bs hb.1 hb.2
 simp -implicitDefEqProofs [AL,ints]at pc0
 refine Aa (pc0) ?_
 simp -implicitDefEqProofs
 have pd:=hD ⟨v,l⟩ pa vs ts k (Agb hh) (AmI hpa) (by omega) (by omega)
 have pd0:=hD ⟨v,l⟩ [] vs ts k (Agb hh) (Aeg (p:=[]) (by simp[Cr])) (by omega) (by omega)
 have hd:=Aqu (p:=pa) (vs:=vs) (tags:=ts) (key:=k) hh
 generalize Xh ⟨v,l⟩ pa vs ts k=d at pd hd
 generalize Xh ⟨v,l⟩ [] vs ts k=d0 at pd0
 simp -implicitDefEqProofs [ints]at pd pd0
 refine Aa (pd) ?_
 simp -implicitDefEqProofs
 obtain⟨q,c1,hq,hc1,pq⟩:=hO c0 2 hc0 (by omega)
 simp -implicitDefEqProofs [AL,ints]at pq
 refine Aa (pq) ?_
 clear pq
 by_cases g:q=true
 ·simp -implicitDefEqProofs [g]
  refine Aa (pd0) ?_
  simp -implicitDefEqProofs
  exact hQ (d,d0) hd
 ·simp -implicitDefEqProofs [g]
  refine Aa (pd) ?_
  simp -implicitDefEqProofs
  exact hQ (d,d) hd
abbrev Gn:Prop:=∀bs:List Int,Aei bs->Rp R bs AmG (fun d=> .agg (AB d))
theorem TV (hE:Gz (D 556)):Gn (Body D EK):=by
 intro bs hb
 refine MU (fun Q hQ=> ?_)
 simp -implicitDefEqProofs
 obtain⟨⟨d,d0⟩,hd,pp⟩:=hE bs hb
 simp -implicitDefEqProofs [ints]at pp
 refine Aa (pp) ?_
 simp -implicitDefEqProofs
 exact hQ d hd
theorem Yl (hN:Qk (D 473)) (hA:V4 (D 483)):Im (Body D FK):=by
 intro bs hb
 refine MU (fun Q hQ=> ?_)
 simp -implicitDefEqProofs
 obtain⟨c0,hc0,pc0⟩:=hN bs hb.1 hb.2
 simp -implicitDefEqProofs [AL,ints]at pc0
 refine Aa (pc0) ?_
 simp -implicitDefEqProofs
 obtain⟨r,c1,hr,hc1,pr⟩:=hA c0 hc0
 simp -implicitDefEqProofs [AL,ints]at pr
 refine Aa (pr) ?_
 simp -implicitDefEqProofs
 exact hQ r hr
abbrev FU:Prop:=∀bs:List Int,Aei bs->Rp R bs Ah8 (fun r=> .agg (Dj r))
theorem Sn (hE:Im (D 557)):FU (Body D Ez):=by
 intro bs hb
 refine MU (fun Q hQ=> ?_)
 simp -implicitDefEqProofs
 obtain⟨r,hr,pp⟩:=hE bs hb
 simp -implicitDefEqProofs [ints]at pp
 refine Aa (pp) ?_
 simp -implicitDefEqProofs
 exact hQ r hr
theorem Ws (hN:Qk (D 473)) (hA:VX (D 482)):Hw (Body D Fx):=by
 intro bs hb
 refine MU (fun Q hQ=> ?_)
 simp -implicitDefEqProofs
 obtain⟨c0,hc0,pc0⟩:=hN bs hb.1 hb.2
 simp -implicitDefEqProofs [AL,ints]at pc0
 refine Aa (pc0) ?_
 simp -implicitDefEqProofs
 obtain⟨e,c1,he,hc1,pe⟩:=hA c0 hc0
 simp -implicitDefEqProofs [AL,ints]at pe
 refine Aa (pe) ?_
 simp -implicitDefEqProofs
 exact hQ e he
abbrev Ik:Prop:=∀bs:List Int,Aei bs->Rp R bs Ana (fun e=> .agg (Ah e))
theorem Zh (hE:Hw (D 558)):Ik (Body D FH):=by
 intro bs hb
 refine MU (fun Q hQ=> ?_)
 simp -implicitDefEqProofs
 obtain⟨e,he,pp⟩:=hE bs hb
 simp -implicitDefEqProofs [ints]at pp
 refine Aa (pp) ?_
 simp -implicitDefEqProofs
 exact hQ e he
abbrev GI:Prop:=∀bs:List Int,Aei bs->Rp R bs Anr (fun w=> .agg (Bu w))
theorem Uw (hN:Qk (D 473)) (hW:Rt (D 477)):GI (Body D Ff):=by
 intro bs hb
 refine MU (fun Q hQ=> ?_)
 simp -implicitDefEqProofs
 obtain⟨c0,hc0,pc0⟩:=hN bs hb.1 hb.2
 simp -implicitDefEqProofs [AL,ints]at pc0
 refine Aa (pc0) ?_
 simp -implicitDefEqProofs
 obtain⟨w,c2,hw,hc2,pw⟩:=hW c0 hc0
 simp -implicitDefEqProofs [AL,ints]at pw
 refine Aa (pw) ?_
 simp -implicitDefEqProofs
 exact hQ w hw
open Go.Lib
set_option maxHeartbeats 1000000
def Ww (l:List UInt8):ByteArray:=⟨l.toArray⟩
@[simp] theorem ArQ (l:List UInt8):(Ww l).size=l.length:=by simp[Ww,ByteArray.size]
@[simp] theorem Ar6 (a b:List UInt8):Ww a++Ww b=Ww (a++b):=by
 apply ByteArray.ext
 simp[Ww]
@[simp] theorem Ar3 (l:List UInt8):ByteArray.mk l.toArray=Ww l:=rfl
@[simp] theorem Ar1:ByteArray.mk #[]=Ww []:=rfl
abbrev Sb (l:List UInt8):V:= .sc (.string (Ww l))
def strs (ls:List (List UInt8)):List V:=ls.map fun l=>Sb l
@[simp high] theorem ArP (xs:List (List UInt8)):(strs xs).length=xs.length:=by simp[strs]
@[simp] theorem ArC:strs []=[]:=rfl
@[simp] theorem ArX (xs:List (List UInt8)) (k:Nat):(strs xs).map (AO k)=strs xs:=by simp[strs,Function.comp_def,AO]
@[simp] theorem Arr (xs:List (List UInt8)) (l:List UInt8):strs xs++ [V.sc (.string (Ww l))]=strs (xs++ [l]):=by simp[strs]
theorem E5 {n:Int} (h:Py n):(itoa n).length<=20:=by
 have key:∀u:Nat,u<=9223372036854775808->(decDigits u).length<=19:=by
  intro u hu
  rw[decDigits_length]
  by_cases h0:nDigits u<=19
  ·exact h0
  have h1:¬u<10:=by intro h2;rw[nDigits_small h2]at h0;omega
  have h2:=nDigits_unique 18 u
  by_cases h3:10 ^ 18<=u
  ·have:=h2 h3 (by omega);omega
  ·have h4:∀k,∀v:Nat,v<10 ^ (k+1)->nDigits v<=k+1:=by
    intro k
    induction k with
    | zero=>intro v hv;rw[nDigits_small (by omega)];omega
    | succ k ih=>
     intro v hv
     by_cases h5:v<10
     ·rw[nDigits_small h5];omega
     ·rw[nDigits_big h5]
      have:=ih (v / 10) (by rw[Nat.pow_succ]at hv;omega)
      omega
   have:=h4 17 u (by omega)
   omega
 unfold Py at h
 unfold itoa
 split
 ·have:=key n.natAbs (by omega)
  simp only[List.length_cons];omega
 ·have:=key n.toNat (by omega)
  omega
abbrev EB:Prop:=∀n:Int,Py n->R [I n] [] (Sb (itoa n)) []
abbrev Ane:Prop:=∀(ls:List (List UInt8)) (sep:List UInt8),ls.length<=4194304->(join ls sep).length<=140737488355328->R [.sl 1 1 ls.length (strs ls),Sb sep] [] (Sb (join ls sep)) []
theorem AeF (hA:EB (D 185)):EB (Body D KX):=by
 intro n h
 simp -implicitDefEqProofs
 refine Aa (hA n h) ?_
 simp -implicitDefEqProofs
theorem AjZ {u:Nat} (h:¬u<10):decDigits u=decDigits (u / 10)++ [UInt8.ofNat (48+u % 10)]:=by
 rw[decDigits,dif_neg h]
def Hf (xs:List Int) (sep:List UInt8):List UInt8:=join (xs.map itoa) sep
theorem Akb (x:List UInt8) (r:List (List UInt8)) (y sep:List UInt8):join (x::r++ [y]) sep=join (x::r) sep++sep++y:=by
 rw[List.cons_append,join_cons,join_cons]
 simp[joinTail]
theorem Ai2 {xs:List Int} {sep:List UInt8} {j:Nat} (h:j<xs.length):Hf (xs.take (j+1)) sep=(if j=0 then []else Hf (xs.take j) sep++sep)++itoa xs[j]:=by
 have e:xs.take (j+1)=xs.take j++ [xs[j]]:=by simp
 unfold Hf
 rw[e,List.map_append]
 by_cases h0:j=0
 ·subst h0;simp[join_one]
 ·rw[if_neg h0]
  cases hx:xs.take j with
  | nil=>exact absurd (congrArg List.length hx) (by rw[List.length_take];simp only[List.length_nil];omega)
  | cons a r=>exact Akb _ _ _ _
theorem F9 {xs:List Int} {sep:List UInt8} (hr:DK xs) (hs:sep.length<=1):(Hf xs sep).length<=21*xs.length:=by
 have key:∀n,n<=xs.length->(Hf (xs.take n) sep).length<=21*n:=by
  intro n
  induction n with
  | zero=>intro _;simp[Hf,join_nil]
  | succ n ih=>
   intro h
   have h1:=ih (by omega)
   have h2:=E5 (hr xs[n] (by simp))
   rw[Ai2 (by omega)]
   split
   ·simp;omega
   ·simp;omega
 have:=key xs.length (Nat.le_refl _)
 rwa [List.take_length]at this
abbrev MJ:Prop:=∀(xs:List Int) (sep:List UInt8),xs.length<=4194304->DK xs->sep.length<=1->R [.sl 1 1 xs.length (ints xs),Sb sep] [] (Sb (Hf xs sep)) []
theorem AnL (hF:EB (D 120)) (hJ:Ane (D 241)):MJ (Body D OP):=by
 intro xs sep hl hr hs
 simp -implicitDefEqProofs
 refine Ag (fun k st=>∃j v4 o1 o2,j+k=xs.length/\st=⟨[.undef,Sb sep,.undef,.arr 3,v4,.sl 1 1 xs.length (ints xs),.sc (.int .i64 xs.length),.sc (.int .i64 j),.undef],[.free,o1,o2,.arr 1 0 j (strs ((xs.map itoa).take j))]⟩) ?_ xs.length _ ⟨0,.undef,.free,.free,by simp,by simp⟩
 intro k st ⟨j,v4,o1,o2,hj,hst⟩
 subst hst
 by_cases hjn:j<xs.length
 ·have hw:=Cv (j:=j) (by omega)
  have hjl:min j xs.length=j:=by omega
  have b1:(j+1)*16<=1099511627776:=by omega
  have hstep:strs ((xs.map itoa).take j++ [itoa xs[j]])=strs ((xs.map itoa).take (j+1)):=by
   rw[<-List.take_append_getElem (by simpa using hjn)];simp
  simp -implicitDefEqProofs [hjn]
  refine Aa (hF xs[j] (hr _ (by simp))) ?_
  simp -implicitDefEqProofs [hjl,b1]
  exact⟨k-1,by omega,j+1,by omega,by simp[hw],rfl,hstep⟩
 ·obtain rfl:j=xs.length:=by omega
  have e:(xs.map itoa).take xs.length=xs.map itoa:=List.take_of_length_le (by simp)
  have e2:(xs.map itoa).length=xs.length:=by simp
  have hj:=hJ (xs.map itoa) sep (by simpa using hl) (by have:=F9 hr hs;unfold Hf at this;omega)
  rw[e2]at hj
  simp -implicitDefEqProofs [e]
  refine Aa hj ?_
  simp -implicitDefEqProofs [Hf]
end Go.Eng.T
namespace Go.Eng.T
open Go.Lib
set_option maxRecDepth 20000
set_option maxHeartbeats 1000000
theorem ifS {α:Type} {a:Nat} {c d:α} (h:a<=1099511627776):(if a<=1099511627776 then c else d)=c:=if_pos h
theorem ifL {α:Type} {a:Nat} {c d:α} (h:a<1099511627776):(if a<1099511627776 then c else d)=c:=if_pos h
def fmtList (xs:List Int):List UInt8:=if xs=[]then [45]else Hf xs [32]
theorem M0 {xs:List Int} (hr:DK xs):(fmtList xs).length<=21*xs.length+1:=by
 unfold fmtList
 split
 ·simp
 ·have:=F9 (sep:=[32]) hr (by simp);omega
variable (R:Rel)
abbrev Kb:Prop:=∀xs:List Int,xs.length<=4194304->DK xs->R [.sl 1 1 xs.length (ints xs)] [] (Sb (fmtList xs)) []
variable (D:Dn)
theorem Acs (hJ:MJ (D 187)):Kb (Body D Jz):=by
 intro xs hl hr
 by_cases h0:xs=[]
 ·subst h0;simp -implicitDefEqProofs [fmtList]
 ·have h0':¬(xs.length:Int)=0:=by have:=List.length_pos_iff.2 h0;omega
  simp -implicitDefEqProofs [h0,h0',fmtList]
  refine Aa (hJ xs [32] hl hr (by simp)) ?_
  simp -implicitDefEqProofs
def GH (d:Aaf):List UInt8:=if d.ok=true then [118]++itoa d.version++(if d.tags=[]then []else [58]++Hf d.tags [44])else [110,111]
theorem X9 {d:Aaf} (hv:Py d.version) (hr:DK d.tags):(GH d).length<=21*d.tags.length+23:=by
 have h1:=E5 hv
 have h2:=F9 (sep:=[44]) hr (by simp)
 unfold GH
 split
 ·split<;>simp<;>omega
 ·simp
abbrev J5:Prop:=∀d:Aaf,d.tags.length<=4194304->Py d.version->DK d.tags->R [arg (AfJ d)] [] (Sb (GH d)) []
theorem Ac2 (hF:EB (D 120)) (hJ:MJ (D 187)):J5 (Body D Ji):=by
 intro d hl hv hr
 have h1:=E5 hv
 have h2:=F9 (sep:=[44]) hr (by simp)
 by_cases ho:d.ok=true
 rotate_left
 ·simp -implicitDefEqProofs [ho,GH]
 simp -implicitDefEqProofs [ho]
 refine Aa (hF d.version hv) ?_
 by_cases h0:d.tags=[]
 ·simp -implicitDefEqProofs (disch:=first | omega | simp) [ifS,ifL,h0,ho,GH]
 ·have h0':(0:Int)<d.tags.length:=by have:=List.length_pos_iff.2 h0;omega
  have h0'':0<d.tags.length:=List.length_pos_iff.2 h0
  simp -implicitDefEqProofs (disch:=first | omega | simp) [ifS,ifL,h0,h0',h0'',ho,GH]
  refine Aa (hJ d.tags [44] hl hr (by simp)) ?_
  simp -implicitDefEqProofs (disch:=first | omega | simp) [ifS,ifL,h0,h0',ho,GH]
def F8 (d:BP):List UInt8:=GH d.deal++ [47]++itoa d.tries++(if d.up=[]then []else [33]++Hf d.up [44])
abbrev JM:Prop:=∀d:BP,d.deal.tags.length<=4194304->d.up.length<=4194304->Py d.deal.version->DK d.deal.tags->Py d.tries->DK d.up->R [arg (AB d)] [] (Sb (F8 d)) []
theorem YH (hF:EB (D 120)) (hJ:MJ (D 187)) (hD:J5 (D 192)):JM (Body D HY):=by
 intro d hl hl2 hv hr hv2 hr2
 have h1:=E5 hv2
 have h2:=F9 (sep:=[44]) hr2 (by simp)
 have h3:=X9 hv hr
 simp -implicitDefEqProofs
 refine Aa (hD d.deal hl hv hr) ?_
 simp -implicitDefEqProofs (disch:=first | omega | simp) [ifS,ifL,F8]
 refine Aa (hF d.tries hv2) ?_
 by_cases h0:d.up=[]
 ·simp -implicitDefEqProofs (disch:=first | omega | simp) [ifS,ifL,h0,F8]
 ·have h0':(0:Int)<d.up.length:=by have:=List.length_pos_iff.2 h0;omega
  have h0'':0<d.up.length:=List.length_pos_iff.2 h0
  simp -implicitDefEqProofs (disch:=first | omega | simp) [ifS,ifL,h0,h0',h0'',F8]
  refine Aa (hJ d.up [44] hl2 hr2 (by simp)) ?_
  simp -implicitDefEqProofs (disch:=first | omega | simp) [ifS,ifL,h0,h0',h0'',F8]
def FD (r:AX):List UInt8:=[118]++itoa r.version++ [32]++Hf r.stages [44]++(if r.off=true then [111,102,102]else [64]++itoa r.pos)
theorem QZ {r:AX} (hv:Py r.version) (hr:DK r.stages) (hp:Py r.pos):(FD r).length<=21*r.stages.length+50:=by
 have h1:=E5 hv
 have h2:=F9 (sep:=[44]) hr (by simp)
 have h3:=E5 hp
 unfold FD
 split<;>simp<;>omega
abbrev Gy:Prop:=∀r:AX,r.stages.length<=4194304->Py r.version->DK r.stages->Py r.pos->R [arg (Dj r)] [] (Sb (FD r)) []
theorem WS (hF:EB (D 120)) (hJ:MJ (D 187)):Gy (Body D GY):=by
 intro r hl hv hr hp
 have h1:=E5 hv
 have h2:=F9 (sep:=[44]) hr (by simp)
 have h3:=E5 hp
 simp -implicitDefEqProofs
 refine Aa (hF r.version hv) ?_
 simp -implicitDefEqProofs (disch:=first | omega | simp) [ifS,ifL,FD]
 refine Aa (hJ r.stages [44] hl hr (by simp)) ?_
 by_cases ho:r.off=true
 ·simp -implicitDefEqProofs (disch:=first | omega | simp) [ifS,ifL,ho,FD]
 ·simp -implicitDefEqProofs (disch:=first | omega | simp) [ifS,ifL,ho,FD]
  refine Aa (hF r.pos hp) ?_
  simp -implicitDefEqProofs (disch:=first | omega | simp) [ifS,ifL,ho,FD]
def OI (e:Ai):List UInt8:=fmtList e.versions++ [124]++fmtList e.tags++ [124]++itoa (e.path.length:Int)
abbrev Pm:Prop:=∀e:Ai,e.versions.length<=4194304->DK e.versions->e.tags.length<=4194304->DK e.tags->e.path.length<=4194304->R [arg (Ah e)] [] (Sb (OI e)) []
theorem AeL (hF:EB (D 120)) (hL:Kb (D 122)):Pm (Body D KQ):=by
 intro e hl1 hr1 hl2 hr2 hp
 have hn:Py (e.path.length:Int):=by unfold Py;omega
 have h1:=M0 hr1
 have h2:=M0 hr2
 have h3:=E5 hn
 simp -implicitDefEqProofs
 refine Aa (hL e.versions hl1 hr1) ?_
 simp -implicitDefEqProofs (disch:=first | omega | simp) [ifS,ifL,OI]
 refine Aa (hL e.tags hl2 hr2) ?_
 simp -implicitDefEqProofs (disch:=first | omega | simp) [ifS,ifL,OI]
 refine Aa (hF (e.path.length:Int) hn) ?_
 simp -implicitDefEqProofs (disch:=first | omega | simp) [ifS,ifL,OI]
end Go.Eng.T
namespace Go.Eng.T
open Go.Lib
set_option maxRecDepth 20000
set_option maxHeartbeats 2000000
def VE (w:World):List UInt8:=itoa w.now++ [32]++Hf w.server [44]++ [32]++FD w.rollout++ [32]++Hf [(w.ends.length:Int),(w.log.length:Int),w.hurt] [32]
abbrev K9 (R:Rel):Prop:=∀w:World,w.server.length<=4194304->DK w.server->w.rollout.stages.length<=4194304->Py w.rollout.version->DK w.rollout.stages->Py w.rollout.pos->w.ends.length<=4194304->w.log.length<=4194304->Py w.now->Py w.hurt->R [arg (Bu w)] [] (Sb (VE w)) []
theorem Abo (D:Dn) (hF:EB (D 120)) (hJ:MJ (D 187)) (hR:Gy (D 199)):K9 (Body D IA):=by
 intro w hs hrs hst hv hrst hp he hlg hn hh
 have n1:Py (w.ends.length:Int):=by unfold Py;omega
 have n2:Py (w.log.length:Int):=by unfold Py;omega
 have n3:DK [(w.ends.length:Int),(w.log.length:Int),w.hurt]:=by
  intro x hx
  simp only[List.mem_cons,List.not_mem_nil,or_false]at hx
  rcases hx with rfl | rfl | rfl
  ·exact n1
  ·exact n2
  ·exact hh
 have l1:=E5 hn
 have l2:=F9 (sep:=[44]) hrs (by simp)
 have l3:=QZ hv hrst hp
 have l4:=E5 n1
 have l5:=E5 n2
 have l6:=E5 hh
 have hj:=hJ [(w.ends.length:Int),(w.log.length:Int),w.hurt] [32] (by simp) n3 (by simp)
 have l7:=F9 (sep:=[32]) n3 (by simp)
 generalize hjj:Hf [(w.ends.length:Int),(w.log.length:Int),w.hurt] [32]=jj at hj l7
 simp at l7
 simp -implicitDefEqProofs
 refine Aa (hF w.now hn) ?_
 simp -implicitDefEqProofs (disch:=first | omega | simp) [ifS,ifL]
 refine Aa (hJ w.server [44] hs hrs (by simp)) ?_
 simp -implicitDefEqProofs (disch:=first | omega | simp) [ifS,ifL]
 refine Aa (hR w.rollout hst hv hrst hp) ?_
 simp -implicitDefEqProofs (disch:=first | omega | simp) [ifS,ifL]
 refine Aa hj ?_
 simp -implicitDefEqProofs (disch:=first | omega | simp) [ifS,ifL,VE,hjj]
end Go.Eng.T
namespace Go.Eng.T
open Go.Lib
set_option maxRecDepth 20000
set_option maxHeartbeats 2000000
abbrev An7 (b:UInt8):Prop:=b.toNat=45∨(48<=b.toNat/\b.toNat<=57)
theorem Zy {k:Nat} (h:k<10):(UInt8.ofNat (48+k)).toNat=48+k:=by
 rw[UInt8.toNat_ofNat']
 omega
theorem AjH:∀(u:Nat),(∀b,b∈decDigits u->48<=b.toNat/\b.toNat<=57):=by
 intro u
 induction u using Nat.strongRecOn with
 | _ u ih=>
  by_cases h:u<10
  ·rw[decDigits_one h]
   intro b hb
   simp only[List.mem_singleton]at hb
   subst hb
   rw[Zy h]
   omega
  ·rw[AjZ h]
   intro b hb
   rcases List.mem_append.1 hb with hb | hb
   ·exact ih (u / 10) (by omega) b hb
   ·simp only[List.mem_singleton]at hb
    subst hb
    rw[Zy (by omega)]
    omega
theorem AjS (u:Nat):∃l b,decDigits u=l++ [b]/\48<=b.toNat/\b.toNat<=57:=by
 by_cases h:u<10
 ·refine⟨[],_,by rw[decDigits_one h];rfl,?_⟩
  rw[Zy h];omega
 ·refine⟨_,_,AjZ h,?_⟩
  rw[Zy (by omega)];omega
theorem NT (n:Int):∀b,b∈itoa n->An7 b:=by
 intro b hb
 unfold itoa at hb
 split at hb
 ·rcases List.mem_cons.1 hb with rfl | hb
  ·exact .inl rfl
  ·exact .inr (AjH _ b hb)
 ·exact .inr (AjH _ b hb)
theorem Akq (n:Int):∃l b,itoa n=l++ [b]/\48<=b.toNat/\b.toNat<=57:=by
 unfold itoa
 split
 ·obtain⟨l,b,e,h⟩:=AjS n.natAbs
  exact⟨45::l,b,by rw[e];rfl,h⟩
 ·exact AjS n.toNat
theorem AkY {p:UInt8->Prop} {sep:List UInt8} (hs:∀b,b∈sep->p b) {r:List (List UInt8)} (h:∀x,x∈r->∀b,b∈x->p b):∀b,b∈joinTail sep r->p b:=by
 intro b hb
 unfold joinTail at hb
 obtain⟨l,hl,hb⟩:=List.mem_flatten.1 hb
 obtain⟨x,hx,rfl⟩:=List.mem_map.1 hl
 rcases List.mem_append.1 hb with hb | hb
 ·exact hs b hb
 ·exact h x hx b hb
theorem AkJ {p:UInt8->Prop} {xs:List Int} {sep:List UInt8} (hs:∀b,b∈sep->p b) (hp:∀b,An7 b->p b):∀b,b∈Hf xs sep->p b:=by
 intro b hb
 unfold Hf at hb
 rcases xs with _ | ⟨x,r⟩
 ·rw[List.map_nil,join_nil]at hb
  cases hb
 ·rw[List.map_cons,join_cons]at hb
  rcases List.mem_append.1 hb with hb | hb
  ·exact hp b (NT x b hb)
  ·exact AkY hs (r:=r.map itoa) (fun y hy=>by
    obtain⟨z,_,rfl⟩:=List.mem_map.1 hy
    exact fun b hb=>hp b (NT z b hb)) b hb
abbrev Calm (b:UInt8):Prop:=¬b.toNat=33/\¬b.toNat=124
theorem Vn {b:UInt8} (h:An7 b):Calm b:=by unfold Calm An7 at *;omega
theorem Aah {xs:List Int} {sep:List UInt8} (hs:∀b,b∈sep->Calm b):∀b,b∈Hf xs sep->Calm b:=AkJ hs (fun _ h=>Vn h)
theorem Uv (xs:List Int):∀b,b∈fmtList xs->Calm b:=by
 unfold fmtList
 split
 ·intro b hb;simp at hb;subst hb;decide
 ·exact Aah (fun b hb=>by simp at hb;subst hb;decide)
theorem Aeb (d:Aaf):∀b,b∈GH d->Calm b:=by
 unfold GH
 split
 ·intro b hb
  rcases List.mem_append.1 hb with hb | hb
  ·rcases List.mem_append.1 hb with hb | hb
   ·simp at hb;subst hb;decide
   ·exact Vn (NT _ b hb)
  ·split at hb
   ·cases hb
   ·rcases List.mem_append.1 hb with hb | hb
    ·simp at hb;subst hb;decide
    ·exact Aah (fun b hb=>by simp at hb;subst hb;decide) b hb
 ·intro b hb
  simp at hb
  rcases hb with rfl | rfl<;>decide
def KP (b:UInt8):Bool:=decide (b.toNat=33)
def K5 (b:UInt8):Bool:=decide (b.toNat=124)
theorem AdT {l:List UInt8} (h:∀b,b∈l->Calm b):l.any KP=false:=by
 rw[List.any_eq_false]
 intro b hb
 unfold KP
 simpa using(h b hb).1
theorem AbR {l:List UInt8} (h:∀b,b∈l->Calm b):l.countP K5=0:=by
 rw[List.countP_eq_zero]
 intro b hb
 unfold K5
 simpa using(h b hb).2
theorem AhH (d:BP):(F8 d).any KP=decide (0<d.up.length):=by
 unfold F8
 rw[List.any_append,List.any_append,List.any_append,AdT (Aeb d.deal),AdT (fun b hb=>Vn (NT _ b hb))]
 split
 ·rename_i h;rw[h];rfl
 ·rename_i h
  have:0<d.up.length:=List.length_pos_iff.2 h
  rw[List.any_append]
  simp[KP,this]
theorem AoN (d:Aaf):decide (GH d=[110,111])= !d.ok:=by
 unfold GH
 by_cases h:d.ok=true
 ·rw[if_pos h,h]
  rw[List.append_assoc]
  simp
 ·rw[if_neg h]
  simp[h]
theorem Afi (r:AX):∃l b,FD r=l++ [b]/\(decide (b=102)=r.off):=by
 unfold FD
 by_cases h:r.off=true
 ·rw[if_pos h,h]
  exact⟨[118]++itoa r.version++ [32]++Hf r.stages [44]++ [111,102],102,by simp,by simp⟩
 ·rw[if_neg h]
  obtain⟨l,b,e,h1,h2⟩:=Akq r.pos
  refine⟨[118]++itoa r.version++ [32]++Hf r.stages [44]++([64]++l),b,by rw[e];simp,?_⟩
  have:¬b=102:=by rintro rfl;revert h2;decide
  simp[h,this]
theorem Ans (e:Ai):(OI e).countP K5=2:=by
 unfold OI
 simp only[List.countP_append]
 rw[AbR (Uv _),AbR (Uv _),AbR (fun b hb=>Vn (NT _ b hb))]
 rfl
theorem AiT (w:World):¬VE w=[]:=by
 unfold VE
 simp
end Go.Eng.T
namespace Go.Eng.T
open Go.Lib
set_option maxRecDepth 20000
set_option maxHeartbeats 4000000
theorem AjO (bs:ByteArray):∀(n i:Nat) (r:List UInt8),bs.size-i=n->ByteArray.toList.loop bs i r=r.reverse++bs.data.toList.drop i
 | 0,i,r,h=>by
  unfold ByteArray.toList.loop
  have h1:¬i<bs.size:=by omega
  have h2:bs.data.toList.length<=i:=by
   rw[Array.length_toList]
   show bs.size<=i
   omega
  rw[if_neg h1,List.drop_eq_nil_of_le h2,List.append_nil]
 | n+1,i,r,h=>by
  unfold ByteArray.toList.loop
  have h1:i<bs.size:=by omega
  have h2:i<bs.data.toList.length:=by
   rw[Array.length_toList]
   exact h1
  rw[if_pos h1,AjO bs n (i+1) _ (by omega),List.drop_eq_getElem_cons h2]
  have h3:bs.get! i=bs.data.toList[i]:=by
   have h4:i<bs.data.size:=by simpa using h2
   rw[Array.getElem_toList]
   exact getElem!_pos bs.data i h4
  rw[h3]
  simp
theorem Aau (l:List UInt8):(Ww l).toList=l:=by
 unfold ByteArray.toList
 rw[AjO (Ww l) _ 0 [] rfl]
 rfl
theorem Ql {w:World} (h:Ap w=true):AP w.rollout=true:=by
 have:=(BU.1 h).b
 unfold FM at this
 simp only[Bool.and_eq_true]at this
 exact this.1
theorem AcX {w:World} (h:Ap w=true):w.rollout.stages.length<=5:=by
 have:=Ql h
 unfold AP at this
 simp only[Bool.and_eq_true,decide_eq_true_eq]at this
 have:=this.2.1.1.2
 unfold NJ at this
 omega
theorem AkP {w:World} (h:Ap w=true):0<=w.now/\w.now<=10000:=by
 have:=(BU.1 h).c
 unfold Es at this
 simp only[Bool.and_eq_true,decide_eq_true_eq]at this
 exact this.2.2.1
abbrev Abx (R:Rel):Prop:=∀bs:List Int,AoL bs->R [.sl 3 1 bs.length (u8s bs)] [] (B true) []
theorem AkG (D:Dn) (hBig:An6 (D 460)) (dD:Gn (D 551)) (hFD:JM (D 126)) (hFl:J5 (D 192)) (dR:FU (D 552)) (hFR:Gy (D 199))
 (dE:Ik (D 553)) (hFE:Pm (D 118)) (hFL:Kb (D 122)) (dW:GI (D 554)) (hFW:K9 (D 132)):Abx (Body D Ng):=by
 intro bs hb
 simp -implicitDefEqProofs
 refine Aa (hBig bs hb.1) ?_
 by_cases hbig:1048576<bs.length
 ·simp -implicitDefEqProofs [hbig]
 have hBs:Aei bs:=⟨by omega,hb.2⟩
 simp -implicitDefEqProofs [hbig]
 obtain⟨d,hd,p1⟩:=dD bs hBs
 obtain⟨r,hr,p2⟩:=dR bs hBs
 obtain⟨e,he,p3⟩:=dE bs hBs
 obtain⟨w,hw,p4⟩:=dW bs hBs
 have hsd:=hd.sz
 have hdt:d.deal.tags.length<=100/\d.up.length<=100:=by unfold Cb ND at hsd;omega
 have pfd:=hFD d (by omega) (by omega) hd.rg.ver hd.rg.tags hd.rg.tries hd.rg.up
 have pfl:=hFl d.deal (by omega) hd.rg.ver hd.rg.tags
 have hsl:(F8 d).length<=10000:=by
  unfold F8
  have h1:=X9 hd.rg.ver hd.rg.tags
  have h2:=E5 hd.rg.tries
  have h3:=F9 (sep:=[44]) hd.rg.up (by simp)
  split<;>simp only[List.length_append,List.length_cons,List.length_nil]<;>omega
 have hcall:=AhH d
 have hno:=AoN d.deal
 simp -implicitDefEqProofs [ints]at p1
 refine Aa (p1) ?_
 clear p1
 simp -implicitDefEqProofs
 simp -implicitDefEqProofs [ints]at pfd
 refine Aa (pfd) ?_
 clear pfd
 simp -implicitDefEqProofs
 obtain⟨s,hs⟩:∃s,s=F8 d:=⟨_,rfl⟩
 rw[<-hs]at hcall hsl
 simp only[<-hs]
 have hbt:∀(l:List UInt8) (j:Nat) (h:j<l.length) (h':j<(Ww l).data.size),(Ww l).data[j]=l[j]:=fun l j h h'=>rfl
 refine Ag (fun k st=>∃j,j+k=s.length/\st=⟨[.sl 3 1 bs.length (u8s bs),.undef,.ptr 2 0,Sb s,B ((s.take j).any KP),I (j:Nat),.undef,.undef,.undef,.undef,.undef,.undef,.undef,.undef,.undef,.undef,.undef],
  [.arr 1 0 d.deal.tags.length (ints d.deal.tags),.arr 1 0 d.up.length (ints d.up),.var [B d.deal.ok,I d.deal.version,.arr 0,I d.tries,.arr 1],.free,.free,.free,.free,.free,.free,.free,.free,.free,.free,.free]⟩) ?_ (s.length) _ ⟨0,by simp,by simp[ints]⟩
 intro k st ⟨j,hj,hst⟩
 subst hst
 by_cases hjn:j<s.length
 ·have hw1:IntKind.i64.wrap ((j:Int)+1)=(j+1:Nat):=by rw[Ad (by omega) (by omega)];simp
  have hstep:(s.take (j+1)).any KP=((s.take j).any KP||KP s[j]):=by
   rw[show s.take (j+1)=s.take j++ [s[j]]by simp,List.any_append];simp
  by_cases g:(s.take j).any KP=true
  ·simp -implicitDefEqProofs [hjn,g]
   have h2:(s.take (j+1)).any KP=true:=by rw[hstep,g];rfl
   exact⟨k-1,by omega,j+1,by omega,by simpa using h2,hw1⟩
  ·have g':(s.take j).any KP=false:=by simpa using g
   simp -implicitDefEqProofs [hjn,g']
   refine⟨k-1,by omega,j+1,by omega,?_,hw1⟩
   rw[hstep,g',hbt s j hjn]
   unfold KP
   rw[Bool.false_or,Bool.eq_iff_iff,beq_iff_eq,decide_eq_true_eq]
   omega
 have hje:s.take j=s:=List.take_of_length_le (by omega)
 rw[hje,hcall]
 simp -implicitDefEqProofs [hjn]
 refine Aa (pfl) ?_
 clear pfl
 have hno3:(GH d.deal==[110,111])= !d.deal.ok:=by
  rw[<-hno,Bool.eq_iff_iff,beq_iff_eq,decide_eq_true_eq]
 clear hno
 simp -implicitDefEqProofs [Aau,hno3]
 simp -implicitDefEqProofs [ints]at p2
 refine Aa (p2) ?_
 clear p2
 simp -implicitDefEqProofs
 have pfr:=hFR r (by have:=hr.len;omega) hr.ver hr.st hr.pos
 simp -implicitDefEqProofs [ints]at pfr
 refine Aa (pfr) ?_
 clear pfr
 simp -implicitDefEqProofs
 obtain⟨tl,b,et,eb⟩:=Afi r
 have hrl:=QZ hr.ver hr.st hr.pos
 have hr3:=hr.len
 rw[et]at hrl⊢
 simp only[List.length_append,List.length_cons,List.length_nil]at hrl
 have hwr:IntKind.i64.wrap (((tl++ [b]).length:Int)-1)=(tl.length:Nat):=by
  have e1:(((tl++ [b]).length:Nat):Int)-1=(tl.length:Nat):=by simp
  rw[e1]
  exact Ad (by omega) (by omega)
 have hwr2:IntKind.i64.wrap (tl.length:Int)=(tl.length:Nat):=Ad (by omega) (by omega)
 have hget:(Ww (tl++ [b])).data[tl.length]? =some b:=by
  show(tl++ [b]).toArray[tl.length]? =some b
  simp
 have hb102:(((b.toNat:Nat):Int)==102)=r.off:=by
  rw[<-eb,Bool.eq_iff_iff,beq_iff_eq,decide_eq_true_eq]
  constructor
  ·intro h
   apply UInt8.toNat_inj.1
   have:(102:UInt8).toNat=102:=rfl
   omega
  ·rintro rfl
   rfl
 simp -implicitDefEqProofs [hwr,hwr2,hget,hb102]
 simp -implicitDefEqProofs [ints]at p3
 refine Aa (p3) ?_
 clear p3
 simp -implicitDefEqProofs
 have hev:=he.sm.vers
 have het:=he.sm.tags
 have hep:=he.sm.path
 have pfe:=hFE e (by omega) he.vers (by omega) he.tags (by omega)
 simp -implicitDefEqProofs [ints]at pfe
 refine Aa (pfe) ?_
 clear pfe
 simp -implicitDefEqProofs
 obtain⟨s2,hs2⟩:∃s2,s2=OI e:=⟨_,rfl⟩
 have hbars:=Ans e
 have hsl2:(OI e).length<=10000:=by
  unfold OI
  have h1:=M0 he.vers
  have h2:=M0 he.tags
  have h3:=E5 (n:=(e.path.length:Int)) (Ec (by omega))
  simp only[List.length_append,List.length_cons,List.length_nil]
  omega
 rw[<-hs2]at hbars hsl2
 simp only[<-hs2]
 have hget2:∀h':tl.length<(Ww (tl++ [b])).data.size,(Ww (tl++ [b])).data[tl.length]=b:=fun h'=>by
  have h:=hget
  rw[Array.getElem?_eq_getElem h']at h
  exact Option.some.inj h
 refine Ag (fun k st=>∃j,j+k=s2.length/\st=⟨[.sl 3 1 bs.length (u8s bs),.undef,.undef,.undef,.undef,.undef,.ptr 4 0,.undef,B r.off,I ((s2.take j).countP K5:Nat),Sb s2,I (j:Nat),.undef,.undef,.undef,.undef,.undef],
  [.arr 1 0 d.deal.tags.length (ints d.deal.tags),.arr 1 0 d.up.length (ints d.up),.var [B d.deal.ok,I d.deal.version,.arr 0,I d.tries,.arr 1],.arr 1 0 r.stages.length (ints r.stages),.var [I r.version,.arr 3,I r.pos,B r.off],.arr 1 0 e.versions.length (ints e.versions),.arr 1 0 e.tags.length (ints e.tags),.arr 4 0 e.path.length (e.path.flatMap DT),.free,.free,.free,.free,.free,.free]⟩) ?_ (s2.length) _ ⟨0,by simp,by simp[ints,hget2,hb102]⟩
 intro k st ⟨j,hj,hst⟩
 subst hst
 by_cases hjn:j<s2.length
 ·have hw1:IntKind.i64.wrap ((j:Int)+1)=(j+1:Nat):=by rw[Ad (by omega) (by omega)];simp
  have hstep:(s2.take (j+1)).countP K5=(s2.take j).countP K5+(if K5 s2[j]=true then 1 else 0):=by
   rw[show s2.take (j+1)=s2.take j++ [s2[j]]by simp,List.countP_append]
   congr 1
   by_cases g:K5 s2[j]=true<;>simp[g]
  have hcl:(s2.take j).countP K5<=j:=by
   have:=List.countP_le_length (p:=K5) (l:=s2.take j)
   rw[List.length_take]at this
   omega
  have hw2:IntKind.i64.wrap (((s2.take j).countP K5:Nat)+1:Int)=((s2.take j).countP K5+1:Nat):=by rw[Ad (by omega) (by omega)];simp
  by_cases g:s2[j].toNat=124
  ·have g2:K5 s2[j]=true:=by unfold K5;simp[g]
   have g3:(((Ww s2).data[j]'(by show j<s2.toArray.size;simpa using hjn)).toNat:Int)=124:=by rw[hbt s2 j hjn];omega
   rw[if_pos g2]at hstep
   simp -implicitDefEqProofs [hjn,g3]
   exact⟨k-1,by omega,j+1,by omega,by rw[hstep];exact hw2,hw1⟩
  ·have g2:¬K5 s2[j]=true:=by unfold K5;simp[g]
   have g3:¬(((Ww s2).data[j]'(by show j<s2.toArray.size;simpa using hjn)).toNat:Int)=124:=by rw[hbt s2 j hjn];omega
   rw[if_neg g2,Nat.add_zero]at hstep
   simp -implicitDefEqProofs [hjn,g3]
   exact⟨k-1,by omega,j+1,by omega,by rw[hstep];simp,hw1⟩
 have hje2:s2.take j=s2:=List.take_of_length_le (by omega)
 rw[hje2,hbars]
 simp -implicitDefEqProofs [hjn]
 have pnl:=hFL [] (by simp) (by intro x hx;cases hx)
 have enl:fmtList []=[45]:=rfl
 rw[enl]at pnl
 simp -implicitDefEqProofs [ints]at pnl
 refine Aa (pnl) ?_
 clear pnl
 simp -implicitDefEqProofs [Aau]
 simp -implicitDefEqProofs [Bu]at p4
 refine Aa (p4) ?_
 clear p4
 simp -implicitDefEqProofs
 have hwp:=BU.1 hw.ok
 have hro:=AaE (Ql hw.ok)
 have hst3:=AcX hw.ok
 have hbh:=Ajm hw.ok
 have hnw:=AkP hw.ok
 have hwsz:=hw.sz
 have hwl:w.server.length<=4200:=by simp only[Af]at hwsz;omega
 have hel:=hwp.few
 have pw:=hFW w (by omega) (fun x hx=>Ec (by have:=RF hwp.reach.1 x hx;unfold InV at this;omega)) (by omega) (Ec (by have:=hro.1;omega)) (fun x hx=>Ec (by have:=hro.2.2 x hx;omega)) (Ec (by have:=hro.2.1;omega))
  (by omega) (by omega) (by unfold Py;omega) (Ec (by have:=hbh.1;unfold M6 at this;omega))
 refine Aa (pw) ?_
 have hns:=AiT w
 simp -implicitDefEqProofs [Aau,hns]
end Go.Eng.T
