/- Own work: part 20 of the proof of FnExactRunConsole. -/
import Derived.Test.YtogmkdgkgfhhoaaGreatDoorDEngAL
import Derived.Test.YtogmkdgkgfhhoaaGreatDoorDP12
import Derived.Test.YtogmkdgkgfhhoaaGreatDoorDP13
import Derived.Test.YtogmkdgkgfhhoaaGreatDoorDP16
import Derived.Test.YtogmkdgkgfhhoaaGreatDoorDP17
import Derived.Test.YtogmkdgkgfhhoaaGreatDoorDP19
import Derived.Below
import Derived.Sort.Grow
import Derived.Deep.Draws
import Derived.Lib.LaidTab
import Derived.Sort.Row
import Derived.Laws.IdiomCopy
import Derived.Lib.SlicesCompact
import Derived.Laws.AppendOwn
import Derived.Lib.SplitLaws
set_option linter.unusedSimpArgs false
set_option linter.unusedVariables false
namespace Go.Eng.T
set_option maxRecDepth 20000
set_option maxHeartbeats 2000000
theorem Ajm {w:World} (h:Ap w=true):M6 w.hurt 0 w.log.length/\w.log.length<=60/\w.stage.length<=60:=by
 have:=(BU.1 h).c
 unfold Es at this
 simp only[Bool.and_eq_true,decide_eq_true_eq]at this
 exact⟨this.2.2.2.1,this.2.1,this.1⟩
theorem AiA {w:World} {i:Int} {d:BP} {on:Bool} (h:Ap w=true) (hm:Lu w i=true):Ap (Hu w i d on)=true:=by
 have p:=BU.1 h
 have hh:=Ajm h
 unfold Lu at hm
 simp only[Bool.and_eq_true,decide_eq_true_eq]at hm
 have hw:IntKind.i64.wrap (w.hurt+1)=w.hurt+1:=Ad (by have:=hh.1.1;omega) (by have:=hh.1.2;omega)
 refine BU.2 ⟨p.reach,p.tags,p.few,p.ends,p.b,?_⟩
 have hc:=p.c
 unfold Es at hc⊢
 simp only[Bool.and_eq_true,decide_eq_true_eq]at hc⊢
 obtain⟨h1,h2,h3,h4,h5⟩:=hc
 refine⟨?_,by simp[Hu];omega,h3,?_,h5⟩
 ·unfold Hu;dsimp only;split
  ·simp;omega
  ·exact h1
 ·unfold Hu
  dsimp only
  rw[hw]
  have a1:=h4.1
  have a2:=h4.2
  split
  ·constructor
   ·omega
   ·simp;omega
  ·constructor
   ·omega
   ·simp;omega
theorem Abu {w:World} {i:Int} (h:Ap w=true):Ap (CR w i).1=true:=by
 unfold CR
 split
 ·rename_i hm;exact AiA h hm
 ·exact h
theorem Zc {w:World} (h:Ap w=true):Ap (Dc w).1=true:=by
 unfold Dc
 split
 ·exact XJ h
 ·exact h
theorem Z6 {w:World} {r:AX} (h:Ap w=true) (hr:AP r=true) (hv:r.version=w.rollout.version) (hs:r.stages=w.rollout.stages):Ap (Ca w r)=true:=by
 have p:=BU.1 h
 refine BU.2 ⟨p.reach,p.tags,p.few,p.ends,?_,?_⟩
 ·have hb:=p.b
  unfold FM at hb⊢
  unfold Ca
  simp only[Bool.and_eq_true,decide_eq_true_eq]at hb⊢
  rw[hv]
  exact⟨hr,hb.2⟩
 ·have hc:=p.c
  unfold Es at hc⊢
  unfold Ca
  dsimp only
  rw[hs]
  exact hc
theorem AkU {r:AX} (h:(Bp r).2=true):AP (Bp r).1=true:=by
 unfold Bp at h⊢
 split at h
 ·rename_i hc
  rw[if_pos hc]
  unfold RO at hc
  simp only[Bool.and_eq_true,Bool.not_eq_true',decide_eq_false_iff_not]at hc
  obtain⟨h1,h2,h3⟩:=hc
  unfold AP at h1⊢
  simp only[Bool.and_eq_true,decide_eq_true_eq]at h1⊢
  obtain⟨a1,⟨⟨a2,a3⟩,a4⟩,a5⟩:=h1
  have:=a5.1
  have:=a5.2
  exact⟨a1,⟨⟨a2,a3⟩,a4⟩,⟨by omega,by omega⟩⟩
 ·cases h
theorem Ak0 {r:AX} (h:(BI r).2=true):AP (BI r).1=true:=by
 unfold BI at h⊢
 split at h
 ·rename_i hc
  rw[if_pos hc]
  unfold VD at hc
  simp only[Bool.and_eq_true]at hc
  have h1:=hc.1
  unfold AP at h1⊢
  simp only[Bool.and_eq_true,decide_eq_true_eq]at h1⊢
  obtain⟨a1,⟨⟨a2,a3⟩,a4⟩,a5⟩:=h1
  have:=a5.1
  have:=a5.2
  exact⟨a1,⟨⟨a2,a3⟩,a4⟩,⟨by omega,by omega⟩⟩
 ·cases h
theorem Ahb (r:AX):(Bp r).1.stages=r.stages:=by unfold Bp;split<;>rfl
theorem AfT (r:AX):(BI r).1.stages=r.stages:=by unfold BI;split<;>rfl
theorem YB {w:World} (h:Ap w=true):Ap (BS w).1=true:=by
 unfold BS
 split
 ·exact h
 ·split
  ·split
   ·rename_i hn;exact XJ (Z6 h (AkU hn) (Agw _) (Ahb _))
   ·exact h
  ·split
   ·split
    ·rename_i hn;exact Ag3 (Z6 h (Ak0 hn) (Abi _) (AfT _))
    ·exact h
   ·exact h
theorem Agn {α:Type} {p:α->Bool}:∀(xs:List α) (i:Nat),Le p xs i=[]->∀x,x∈xs->p x=false
 | [],_,_,x,hx=>by cases hx
 | a::r,i,h,x,hx=>by
  unfold Le at h
  split at h
  ·cases h
  ·rename_i hp
   rcases List.mem_cons.1 hx with rfl | hx
   ·simpa using hp
   ·exact Agn r (i+1) h x hx
theorem Xf {w:World} {v pm:Int} (h:Ap w=true):Ap (Br w v pm).1=true:=by
 unfold Br
 split
 rotate_left
 ·exact h
 rename_i hc
 obtain⟨h1,h2⟩:=hc
 have p:=BU.1 h
 have hm:FP w.server (Fh w) v pm=true:=by
  unfold GN at h1
  split at h1
  ·assumption
  ·cases h1
 have e:(GN w.server (Fh w) v pm).1=Co w.server v:=by unfold GN;rw[if_pos hm]
 rw[e]
 unfold FP at hm
 simp only[Bool.and_eq_true,decide_eq_true_eq,Bool.not_eq_true',decide_eq_false_iff_not]at hm
 obtain⟨m1,m2,m3,m4,m5,m6⟩:=hm
 have hmem:∀x,x∈Co w.server v↔x∈w.server/\¬x=v:=by intro x;unfold Co;simp[List.mem_filter]
 have hver:w.rollout.version∈w.server:=by
  have hb:=p.b
  unfold FM at hb
  simp only[Bool.and_eq_true,decide_eq_true_eq]at hb
  exact hb.2.1
 refine BU.2 ⟨⟨?_,?_⟩,p.tags,p.few,p.ends,?_,p.c⟩
 ·refine ZB ?_ (fun x hx=> ?_) ?_
  ·exact List.Pairwise.filter _ (Ru m1)
  ·have:=RF m1 x ((hmem x).1 hx).1;exact⟨this.1,this.2⟩
  ·exact List.length_pos_of_mem ((hmem _).2 ⟨hver,fun h=>h2 h.symm⟩)
 ·intro e he
  have h3:=Agn _ _ m5 e.versions (by unfold Fh;exact List.mem_map.2 ⟨e,he,rfl⟩)
  have h4:=Ie.1 (p.reach.2 e he)
  have h5:=Ajj (Co w.server v) e.versions
  unfold Zk at h3
  refine Ie.2 ?_
  dsimp only
  simp[h4]at h3
  omega
 ·have hb:=p.b
  unfold FM at hb⊢
  simp only[Bool.and_eq_true,decide_eq_true_eq]at hb⊢
  exact⟨hb.1,(hmem _).2 ⟨hver,fun h=>h2 h.symm⟩,hb.2.2⟩
theorem Ah9 {s s' l:List Int} (h:0<AJ s l) (hl:AQ s' =true) (hs:∀x,x∈s->x∈s'):0<AJ s' l:=by
 unfold AJ at h⊢
 split at h
 ·rename_i hc
  rw[if_pos ⟨hl,hc.2⟩]
  obtain⟨x,hx,h0⟩:=AgC h
  unfold common at hx⊢
  have hx':=List.mem_filter.1 hx
  have hm:x∈s'.filter fun v=>decide (v∈l):=List.mem_filter.2 ⟨hs x hx'.1,hx'.2⟩
  have:=max_mem (a:=0) hm
  unfold Sw
  omega
 ·omega
theorem Wu {w:World} {v:Int} (h:Ap w=true):Ap (EC w v).1=true:=by
 unfold EC
 dsimp only
 have p:=BU.1 h
 by_cases hc:Tn w.server v=true
 rotate_left
 ·have e:(KT w.server v).1=w.server:=by unfold KT;rw[if_neg hc]
  rw[e];exact h
 have e:(KT w.server v).1=El w.server v:=by unfold KT;rw[if_pos hc]
 rw[e]
 unfold Tn at hc
 simp only[Bool.and_eq_true,decide_eq_true_eq]at hc
 have hv:=Aai hc.1 hc.2.1
 refine BU.2 ⟨⟨hv,fun e he=> ?_⟩,p.tags,p.few,p.ends,?_,p.c⟩
 ·exact Ie.2 (Ah9 (Ie.1 (p.reach.2 e he)) hv (fun x hx=>(IQ _ _ _).2 (.inl hx)))
 ·have hb:=p.b
  unfold FM at hb⊢
  simp only[Bool.and_eq_true,decide_eq_true_eq]at hb⊢
  exact⟨hb.1,(IQ _ _ _).2 (.inl hb.2.1),hb.2.2⟩
theorem AdF {w:World} {j:Nat} {e:Ai} (h:Ap w=true) (hj:j<w.ends.length) (he:Au e=true) (hv:e.versions=w.ends[j].versions):Ap {w with ends:=w.ends.set j e} =true:=by
 have p:=BU.1 h
 have hm:∀x,x∈w.ends.set j e->x∈w.ends∨x=e:=fun x hx=>List.mem_or_eq_of_mem_set hx
 refine BU.2 ⟨⟨p.reach.1,fun x hx=> ?_⟩,p.tags,by simp;exact p.few,fun x hx=> ?_,p.b,p.c⟩
 ·rcases hm x hx with hx | rfl
  ·exact p.reach.2 x hx
  ·rw[hv];exact p.reach.2 _ (List.getElem_mem hj)
 ·rcases hm x hx with hx | rfl
  ·exact p.ends x hx
  ·exact he
theorem AcB {w:World} {i:Int} {b:EG} (h:Ap w=true):Ap (Fg w i b).1=true:=by
 have p:=BU.1 h
 unfold Fg
 split
 rotate_left
 ·exact h
 split
 rotate_left
 ·exact h
 rename_i x hx
 split
 rotate_left
 ·exact h
 rename_i hc
 obtain⟨hj,rfl⟩:=List.getElem?_eq_some_iff.1 hx
 refine AdF h hj ?_ rfl
 have he:=p.ends _ (List.getElem_mem hj)
 unfold Au at he⊢
 simp only[Bool.and_eq_true,decide_eq_true_eq]at he⊢
 obtain⟨a1,a2,a3,a4,a5,a6,a7⟩:=he
 refine⟨a1,a2,a3,a4,by simp;omega,?_,a7⟩
 rw[List.all_append,a6]
 simp[hc.1]
theorem YA {w:World} {i:Int} (h:Ap w=true):Ap (DX w i).1=true:=by
 have p:=BU.1 h
 unfold DX
 split
 rotate_left
 ·exact h
 split
 rotate_left
 ·exact h
 rename_i x hx
 split
 ·exact h
 unfold Ob
 rw[hx]
 dsimp only
 obtain⟨hj,rfl⟩:=List.getElem?_eq_some_iff.1 hx
 refine AdF h hj ?_ rfl
 have he:=p.ends _ (List.getElem_mem hj)
 unfold Au at he⊢
 simp only[Bool.and_eq_true,decide_eq_true_eq]at he⊢
 obtain⟨a1,a2,a3,a4,a5,a6,a7⟩:=he
 exact⟨a1,a2,a3,a4,by simp,by simp,a7⟩
theorem Abs {w:World} {n:Int} (h:Ap w=true):Ap (ED w n).1=true:=by
 have p:=BU.1 h
 unfold ED
 split
 rotate_left
 ·exact h
 rename_i hc
 refine BU.2 ⟨p.reach,p.tags,p.few,p.ends,p.b,?_⟩
 have hh:=p.c
 unfold Es at hh⊢
 simp only[Bool.and_eq_true,decide_eq_true_eq]at hh⊢
 have a1:=hc.1.1
 have a2:=hc.2.1
 have a3:=hc.2.2
 exact⟨hh.1,hh.2.1,⟨by omega,by omega⟩,hh.2.2.2⟩
theorem Aho {w:World} {e:Event} (h:Ap w=true):Ap (AA w e).1=true:=by
 unfold AA
 repeat' split
 ·exact Abu h
 ·exact Zc h
 ·exact YB h
 ·exact Xf h
 ·exact Wu h
 ·exact AcB h
 ·exact YA h
 ·exact Abs h
 ·exact h
set_option maxHeartbeats 4000000
theorem RS (w:World):(enter w).log=w.log:=by unfold enter;split<;>rfl
theorem AdD (w:World):(enter w).stage.length<=w.stage.length:=by unfold enter;split<;>simp
theorem Z4 (w:World):(enter w).ends.length=w.ends.length:=by unfold enter;split<;>simp
theorem AlP (w:World) (e:Event):(AA w e).1.log.length<=w.log.length+(if e.kind=1 then 1 else 0)/\(AA w e).1.stage.length<=w.stage.length+1/\(AA w e).1.ends.length=w.ends.length:=by
 unfold AA
 by_cases g1:e.kind=1
 ·rw[if_pos g1,if_pos g1]
  unfold CR
  split
  ·unfold Hu
   dsimp only
   refine⟨by simp,?_,rfl⟩
   split<;>simp
  ·exact⟨by first | omega | (dsimp only;omega),by first | omega | (dsimp only;omega),rfl⟩
 rw[if_neg g1,if_neg g1]
 split
 ·unfold Dc
  split
  ·have:=AdD w
   exact⟨by rw[RS];first | omega | (dsimp only;omega),by first | omega | (dsimp only;omega),Z4 w⟩
  ·exact⟨by first | omega | (dsimp only;omega),by first | omega | (dsimp only;omega),rfl⟩
 split
 ·unfold BS
  split
  ·exact⟨by first | omega | (dsimp only;omega),by first | omega | (dsimp only;omega),rfl⟩
  split
  ·split
   ·have:=AdD (Ca w (Bp w.rollout).1)
    refine⟨by rw[RS];unfold Ca;first | omega | (dsimp only;omega),?_,by show(enter _).ends.length=_;rw[Z4];rfl⟩
    unfold Ca at this⊢;dsimp only at this⊢;omega
   ·exact⟨by first | omega | (dsimp only;omega),by first | omega | (dsimp only;omega),rfl⟩
  split
  ·split
   ·refine⟨?_,?_,?_⟩
    ·unfold leave Ca;first | omega | (dsimp only;omega)
    ·unfold leave Ca;simp
    ·unfold leave Ca;simp
   ·exact⟨by first | omega | (dsimp only;omega),by first | omega | (dsimp only;omega),rfl⟩
  ·exact⟨by first | omega | (dsimp only;omega),by first | omega | (dsimp only;omega),rfl⟩
 split
 ·unfold Br;split<;>exact⟨by first | omega | (dsimp only;omega),by first | omega | (dsimp only;omega),rfl⟩
 split
 ·unfold EC;exact⟨by first | omega | (dsimp only;omega),by first | omega | (dsimp only;omega),rfl⟩
 split
 ·unfold Fg
  split
  ·split
   ·split
    ·exact⟨by first | omega | (dsimp only;omega),by first | omega | (dsimp only;omega),by simp⟩
    ·exact⟨by first | omega | (dsimp only;omega),by first | omega | (dsimp only;omega),rfl⟩
   ·exact⟨by first | omega | (dsimp only;omega),by first | omega | (dsimp only;omega),rfl⟩
  ·exact⟨by first | omega | (dsimp only;omega),by first | omega | (dsimp only;omega),rfl⟩
 split
 ·unfold DX
  split
  ·split
   ·split
    ·exact⟨by first | omega | (dsimp only;omega),by first | omega | (dsimp only;omega),rfl⟩
    ·unfold Ob
     split
     ·exact⟨by first | omega | (dsimp only;omega),by first | omega | (dsimp only;omega),by simp⟩
     ·exact⟨by first | omega | (dsimp only;omega),by first | omega | (dsimp only;omega),rfl⟩
   ·exact⟨by first | omega | (dsimp only;omega),by first | omega | (dsimp only;omega),rfl⟩
  ·exact⟨by first | omega | (dsimp only;omega),by first | omega | (dsimp only;omega),rfl⟩
 split
 ·unfold ED;split<;>exact⟨by first | omega | (dsimp only;omega),by first | omega | (dsimp only;omega),rfl⟩
 ·exact⟨by first | omega | (dsimp only;omega),by first | omega | (dsimp only;omega),rfl⟩
structure LW (n:Nat) (w:World):Prop where
 ok:Ap w=true
 pt:Yv w<=3500+10*n
 log:w.log.length<=n
 stg:w.stage.length<=n
 ends:0<w.ends.length/\w.ends.length<=5
set_option maxHeartbeats 4000000
set_option maxHeartbeats 2000000
set_option maxHeartbeats 2000000
set_option maxHeartbeats 4000000
end Go.Eng.T
namespace Go.Eng
end Go.Eng
namespace Go.Eng.T
set_option maxRecDepth 20000
set_option maxHeartbeats 4000000
theorem AJ1 {w:World} {e:Event} (h:(AA w e).2=false):(AA w e).1=w:=by
 unfold AA at h⊢
 split at h
 ·rename_i g;rw[if_pos g];unfold CR at h⊢;split at h
  ·cases h
  ·rename_i g2;rw[if_neg g2]
 rename_i g;rw[if_neg g]
 split at h
 ·rename_i g;rw[if_pos g];unfold Dc at h⊢;split at h
  ·cases h
  ·rename_i g2;rw[if_neg g2]
 rename_i g;rw[if_neg g]
 split at h
 ·rename_i g;rw[if_pos g];unfold BS at h⊢
  repeat' split
  all_goals first | rfl | (exfalso;simp_all)
 rename_i g;rw[if_neg g]
 split at h
 ·rename_i g;rw[if_pos g];unfold Br at h⊢;split at h
  ·cases h
  ·rename_i g2;rw[if_neg g2]
 rename_i g;rw[if_neg g]
 split at h
 ·rename_i g;rw[if_pos g];unfold EC at h⊢;dsimp only at h⊢;rw[AoI h]
 rename_i g;rw[if_neg g]
 split at h
 ·rename_i g;rw[if_pos g];unfold Fg at h⊢
  repeat' split
  all_goals first | rfl | (exfalso;simp_all)
 rename_i g;rw[if_neg g]
 split at h
 ·rename_i g;rw[if_pos g];unfold DX at h⊢
  repeat' split
  all_goals first | rfl | (exfalso;simp_all)
 rename_i g;rw[if_neg g]
 split at h
 ·rename_i g;rw[if_pos g];unfold ED at h⊢;split at h
  ·cases h
  ·rename_i g2;rw[if_neg g2]
 rename_i g;rw[if_neg g]
structure AL1 (w:World) (r:World×Bool):Prop where
 ok:Ap r.1=true
 sz:Af r.1<=30000
 no:r.2=false->r.1=w
open Go.Lib
set_option maxHeartbeats 8000000
theorem AIn:∀(l w:List UInt8),(wGo l w).length<=l.length+1/\∀x,x∈wGo l w->x≠ []/\x.length<=w.length+l.length
 | [],w=>by
  rw[AIW]
  split
  ·simp
  ·rename_i h
   refine⟨by simp,fun x hx=> ?_⟩
   simp only[List.mem_singleton]at hx
   subst hx
   exact⟨h,by simp⟩
 | c::r,w=>by
  have h1:=AIn r []
  have h2:=AIn r (w++ [c])
  rw[wGo]
  split
  ·split
   ·refine⟨by simp;omega,fun x hx=> ?_⟩
    have:=h1.2 x hx
    refine⟨this.1,?_⟩
    have h3:=this.2
    simp at h3⊢
    omega
   ·rename_i hw
    refine⟨by simp;omega,fun x hx=> ?_⟩
    rcases List.mem_cons.1 hx with rfl | hx
    ·exact⟨hw,by simp⟩
    ·have:=h1.2 x hx
     refine⟨this.1,?_⟩
     have h3:=this.2
     simp at h3⊢
     omega
  ·refine⟨by simp;omega,fun x hx=> ?_⟩
   have:=h2.2 x hx
   refine⟨this.1,?_⟩
   have h3:=this.2
   simp at h3⊢
   omega
theorem AHa (l:List UInt8):(Awt l).length<=l.length+1/\∀x,x∈Awt l->x≠ []/\x.length<=l.length:=by
 have:=AIn l []
 simpa[Awt]using this
def Ax7 (w:World) (word:List UInt8) (n:List Int):World×List UInt8:=
 if word=[119,111,114,108,100]/\n≠ []then(if(AnV (n.getD 0 0) n.tail).2=true then((AnV (n.getD 0 0) n.tail).1,wOk)else(w,wNo))
 else if word=[97,108,108]/\n=[]then(AGj w,wOk)
 else if 0<(Ark word n).kind then((AA w (Ark word n)).1,if(AA w (Ark word n)).2=true then wOk else wNo)
 else if n.length=0 then(w,(AsK w word).getD Atb)else if n.length=1 then(w,(At3 w word (n.getD 0 0)).getD Atb)else(w,Atb)
def AsN (w:World) (l:List UInt8):World×List UInt8:=
 if l.length>200 then(w,Atb)else match Awt l with
  | []=>(w,Atb)
  | word::r=>if Au2 r=true then Ax7 w word (numsOf r)else(w,Atb)
abbrev AGB (R:Rel):Prop:=∀(w:World) (l:List UInt8),Art w->Af w<=4190000->l.length<=4194000->R [arg (Bu w),Sb l] [] (.tup [.agg (Bu (AsN w l).1),Sb (AsN w l).2]) []
theorem AGF (w:List UInt8) (n:List Int):Hy (Ark w n)<=1:=by
 unfold Ark
 repeat' split
 all_goals simp[Hy,Gm,AsO]
theorem ANF (D:Dn) (hWd:AOq (D 21)) (hC:EF (D 22)) (hNs:AIO ANU (D 23)) (hLW:AMl (D 24)) (hTA:AC8 (D 25))
 (hEv:AMS (D 26)) (hAp:MS (D 27)) (hSd:AO9 (D 28)) (hN0:AO6 (D 29)) (hN1:APG (D 30)):AGB (Body D AGv):=by
 intro w l ok hw hl
 have hsz:=ok.sz
 have hwo:=AHa l
 simp -implicitDefEqProofs
 refine Aa (hWd l (by omega)) ?_
 unfold AsN
 cases hws:Awt l with
 | nil=>
  by_cases h2:l.length>200
  all_goals
   simp -implicitDefEqProofs [h2]
   refine Aa (hC w hsz) ?_
   simp -implicitDefEqProofs [Atb]
 | cons word r=>
  rw[hws]at hwo
  have hlr:=hwo.1
  simp only[List.length_cons]at hlr
  by_cases h2:l.length>200
  ·have h2':200<(l.length:Int):=by omega
   have c0:¬((r.length:Int)+1=0):=by omega
   simp -implicitDefEqProofs [h2,h2',c0]
   refine Aa (hC w hsz) ?_
   simp -implicitDefEqProofs [Atb]
  ·have h2':¬200<(l.length:Int):=by omega
   have c0:¬((r.length:Int)+1=0):=by omega
   have c1:(1:Int)<=r.length+1:=by omega
   have e6:((r.length:Int)+1).toNat=r.length+1:=by omega
   have e5:part (strs (word::r)) 1 1 r.length=strs r:=by
    simp only[part,strs,List.map_cons,Nat.one_mul,Nat.mul_one,List.drop_succ_cons,List.drop_zero]
    rw[List.take_of_length_le (by simp)]
   simp -implicitDefEqProofs [h2,h2',c0,c1,e5,e6]
   have hwr:ALs r:=⟨by omega,fun x hx=>by have:=(hwo.2 x (List.mem_cons_of_mem _ hx)).2;omega⟩
   refine Aa (hNs r hwr) ?_
   by_cases ha:Au2 r=true
   rotate_left
   ·have ha':Au2 r=false:=by simpa using ha
    simp -implicitDefEqProofs [ha']
    refine Aa (hC w hsz) ?_
    simp -implicitDefEqProofs [Atb]
   have hnl:=ADn r
   have hrg:=AKJ r
   have hst:(strs (word::r))[0]? =some (Sb word):=rfl
   have hr0:(0:Int)<=r.length:=by omega
   rw[APx ha]
   generalize numsOf r=n at hnl hrg
   have hn1:n.length<=4194000:=by omega
   simp -implicitDefEqProofs [ha]
   rw[<-hnl]
   clear hnl
   have hk:=AIT word
   by_cases w1:word=[119,111,114,108,100]/\n≠ []
   ·obtain⟨w1a,w1b⟩:=w1
    cases n with
    | nil=>exact absurd rfl w1b
    | cons x st=>
     have hlw:=hLW w x st hsz (by simp at hn1;omega)
     have e:Ax7 w word (x::st)=if(AnV x st).2=true then((AnV x st).1,wOk)else(w,wNo):=by unfold Ax7;rw[if_pos ⟨w1a,w1b⟩];rfl
     have p1:(0:Int)<(st.length:Int)+1:=by omega
     rw[e]
     simp -implicitDefEqProofs [w1a,hst,p1]
     refine Aa (show _ from hlw) ?_
     by_cases g:(AnV x st).2=true
     ·simp -implicitDefEqProofs [g,wOk]
     ·simp -implicitDefEqProofs [g,wNo]
   by_cases w2:word=[97,108,108]/\n=[]
   ·obtain⟨w2a,rfl⟩:=w2
    have e:Ax7 w word []=(AGj w,wOk):=by unfold Ax7;rw[if_neg w1,if_pos ⟨w2a,rfl⟩]
    rw[e]
    simp -implicitDefEqProofs [w2a,hst]
    refine Aa (hTA w hw) ?_
    simp -implicitDefEqProofs [wOk]
   have hsd:Ax7 w word n=if 0<(Ark word n).kind then((AA w (Ark word n)).1,if(AA w (Ark word n)).2=true then wOk else wNo)
    else if n.length=0 then(w,(AsK w word).getD Atb)else if n.length=1 then(w,(At3 w word (n.getD 0 0)).getD Atb)else(w,Atb):=by
    unfold Ax7;rw[if_neg w1,if_neg w2]
   rw[hsd]
   have hee:=hEv word n (by omega)
   have hse:=AGF word n
   have h0:(n.length:Int)=0↔n.length=0:=by omega
   have h1:(n.length:Int)=1↔n.length=1:=by omega
   by_cases a1:word=[119,111,114,108,100]
   ·have hn:n=[]:=by
     by_cases hn:n=[]
     ·exact hn
     ·exact absurd ⟨a1,hn⟩ w1
    subst hn
    subst a1
    have e:Ark [119,111,114,108,100] []=⟨0,0,AsO⟩:=rfl
    rw[e]at hee
    simp -implicitDefEqProofs [hst,e]
    refine Aa (show _ from hee) ?_
    simp -implicitDefEqProofs [AsO]
    refine Aa (hC w hsz) ?_
    simp -implicitDefEqProofs
    refine Aa (hN0 w _ ok) ?_
    simp -implicitDefEqProofs
   ·by_cases a2:word=[97,108,108]
    ·have hn0:¬n.length=0:=fun h=>w2 ⟨a2,List.eq_nil_of_length_eq_zero h⟩
     have A1:(word=[119,111,114,108,100])=False:=eq_false a1
     have A2:(word=[97,108,108])=True:=eq_true a2
     clear a1 w1 w2 a2
     simp -implicitDefEqProofs [A1,A2,hn0,hst,h0]
     refine Aa (show _ from hee) ?_
     clear hee hsd
     generalize Ark word n=e at hse⊢
     obtain⟨kd,en,⟨el,ed,es,ex⟩⟩:=e
     by_cases ke:0<kd
     ·simp -implicitDefEqProofs [ke]
      refine Aa (hAp w ⟨kd,en,⟨el,ed,es,ex⟩⟩ hsz (by omega)) ?_
      have hno:=AJ1 (w:=w) (e:=⟨kd,en,⟨el,ed,es,ex⟩⟩)
      generalize AA w ⟨kd,en,⟨el,ed,es,ex⟩⟩=p at hno⊢
      obtain⟨x,dn⟩:=p
      cases dn
      ·have hx:x=w:=hno rfl
       simp -implicitDefEqProofs
       refine Aa (show _ from(hSd w x hsz).2) ?_
       simp -implicitDefEqProofs [wNo,hx]
      ·simp -implicitDefEqProofs
       refine Aa (show _ from(hSd w x hsz).1) ?_
       simp -implicitDefEqProofs [wOk]
     ·simp -implicitDefEqProofs [ke]
      by_cases l0:n=[]
      ·exact absurd (congrArg List.length l0) hn0
      ·by_cases l1:n.length=1
       ·obtain⟨x,rfl⟩:=AJN l1
        simp -implicitDefEqProofs
        refine Aa (hC w hsz) ?_
        simp -implicitDefEqProofs
        refine Aa (hN1 w _ x ok (hrg x (by simp))) ?_
        simp -implicitDefEqProofs
       ·have ll:¬n.length=0:=fun h=>l0 (List.eq_nil_of_length_eq_zero h)
        have l0':¬(n.length:Int)=0:=by omega
        have l1':¬(n.length:Int)=1:=by omega
        simp -implicitDefEqProofs [l0,l1,l0',l1']
        refine Aa (hC w hsz) ?_
        simp -implicitDefEqProofs [Atb]
    ·simp -implicitDefEqProofs [a1,a2,hst,h0]
     refine Aa (show _ from hee) ?_
     clear hee hsd
     generalize Ark word n=e at hse⊢
     obtain⟨kd,en,⟨el,ed,es,ex⟩⟩:=e
     by_cases ke:0<kd
     ·simp -implicitDefEqProofs [ke]
      refine Aa (hAp w ⟨kd,en,⟨el,ed,es,ex⟩⟩ hsz (by omega)) ?_
      have hno:=AJ1 (w:=w) (e:=⟨kd,en,⟨el,ed,es,ex⟩⟩)
      generalize AA w ⟨kd,en,⟨el,ed,es,ex⟩⟩=p at hno⊢
      obtain⟨x,dn⟩:=p
      cases dn
      ·have hx:x=w:=hno rfl
       simp -implicitDefEqProofs
       refine Aa (show _ from(hSd w x hsz).2) ?_
       simp -implicitDefEqProofs [wNo,hx]
      ·simp -implicitDefEqProofs
       refine Aa (show _ from(hSd w x hsz).1) ?_
       simp -implicitDefEqProofs [wOk]
     ·simp -implicitDefEqProofs [ke]
      by_cases l0:n=[]
      ·subst l0
       simp -implicitDefEqProofs
       refine Aa (hC w hsz) ?_
       simp -implicitDefEqProofs
       refine Aa (hN0 w _ ok) ?_
       simp -implicitDefEqProofs
      ·by_cases l1:n.length=1
       ·obtain⟨x,rfl⟩:=AJN l1
        simp -implicitDefEqProofs
        refine Aa (hC w hsz) ?_
        simp -implicitDefEqProofs
        refine Aa (hN1 w _ x ok (hrg x (by simp))) ?_
        simp -implicitDefEqProofs
       ·have ll:¬n.length=0:=fun h=>l0 (List.eq_nil_of_length_eq_zero h)
        have l0':¬(n.length:Int)=0:=by omega
        have l1':¬(n.length:Int)=1:=by omega
        simp -implicitDefEqProofs [l0,l1,l0',l1']
        refine Aa (hC w hsz) ?_
        simp -implicitDefEqProofs [Atb]
end Go.Eng.T
namespace Go.Eng
open Go.Lib Go.RowKit
inductive TP (Ae:Nat->Option FuncId) (w:World):List V->List Value->Prop where
 | nil:TP Ae w [] []
 | sc {v:Value} {azs:List V} {xs:List Value} (h:TP Ae w azs xs):TP Ae w (.sc v::azs) (v::xs)
 | sl {e len:Nat} {cells:List V} {x:Value} {azs:List V} {xs:List Value} (h1:Rd Ae w (· <w.heap.size) (.sl 1 e len cells) x) (h:TP Ae w azs xs):TP Ae w (.sl 1 e len cells::azs) (x::xs)
def Ah4:V->Prop
 | .sc _=>True
 | .sl 1 _ _ _=>True
 | _=>False
theorem Adt {F:Fr} {w:World} {β:Nat->Base} {own:Nat->Option (Nat×List Nat)} {H:Hp} (hw:w=F.w0):∀ {azs:List V} {xs:List Value},(∀a,a∈azs->Ah4 a)->Pw (VR F β own H w) azs xs->TP F.Ae w azs xs
 | [],xs,_,h=>by rw[h.N8];exact .nil
 | a::azs,xs,hp,h=>by
  obtain⟨x,r,rfl,h1,h2⟩:=h.Nf
  have ih:=Adt hw (fun a ha=>hp a (List.mem_cons_of_mem _ ha)) h2
  have ha:=hp a (by simp)
  cases h1 with
  | sc h=>exact .sc ih
  | @rd fl e len cells _ h3 h=>
   match fl,ha,h with
   | 1,_,h=>exact .sl (Rd.move h (fun b hb=>by rw[hw];exact hb.1) (fun _ _=>rfl)) ih
  | _=>exact absurd ha (by simp[Ah4])
theorem AgE {P:Program} {Ae:Nat->Option FuncId} {G:Gl} {g:Nat} {args:List V} {v:Value} (hv:v.oneCell' =true) (hp':∀a,a∈args->Ah4 a)
 (h:∀id,Ae g=some id->∀w:World,(∀b,G b->b<w.heap.size/\w.heap[b]? =G.is b)->∀xs,TP Ae w args xs->Calls P id xs.toArray w fun e w'=>e= .returned v/\Below w.heap.size w w'):Den P Ae G g args [] (.sc v) []:=by
 intro id hid F hF hG hb ht hn inv xs hx
 have hr:=Adt (F:=F) rfl hp' hx
 rw[hF]at hr
 refine(h id hid F.w0 (fun b hb=> ?_) xs hr).mono fun e w' ⟨he,hw⟩=> ?_
 ·have:=inv.glob b (by rw[hG];exact hb)
  exact⟨this.1,by rw[<-hG];exact this.2.2⟩
 ·subst he
  refine⟨F.own0,⟨hw.size,hw.os,hw.tape,hw.output,fun b hb _=>hw.block b hb,fun b p hb=>⟨Nat.lt_of_lt_of_le (inv.ownb b p hb).1 hw.size,fun _=> ?_⟩,.sc hv,hn.symm,fun i o hi=> ?_⟩⟩
  ·rw[hb];simp
  ·simp at hi
theorem below_grow {w:World} {k:Nat} {os:Array Obj}:Below w.heap.size w (Sort.grow (w.drewN k) os):=
 ⟨rfl,rfl,rfl,by simp[Sort.grow,World.drewN],fun b hb=>by simp[Sort.grow,World.drewN,Array.getElem?_append,hb]⟩
theorem AnP {P:Program} {W w:World} {name:String} {k:IntKind} {zs:List Int} {b:Nat} (hg:P.globalNamed name=some b) (h:TabIs P W name k zs) (he:w.heap[b]? =W.heap[b]?):TabIs P w name k zs:=by
 unfold TabIs World.var? at *
 rw[hg]at h⊢
 simp only[Option.bind_some]at h⊢
 rw[he]
 exact h
theorem Agi {P:Program} {W:World} {name:String} {k:IntKind} {zs:List Int} {rest:List (String×DataW Unit)} {g:Nat} {t e:TypeId} {n:Nat} {ps:List MemPlace}
 (hg:P.globalNamed name=some g) (hty:(P.globals[g]?).map (·.type)=some t) (ht:P.underlying t=some (.array n e)) (he:P.underlying e=some (.int k)) (hce:P.cellsOf e=1) (hct:P.cellsOf t=n)
 (h:DataW.LaidVars P W ((name,tabData k zs)::rest) ps):TabIs P W name k zs:=by
 obtain⟨g',t',cs,fuel,p,q,hg',ht',hvar,hd,_,_⟩:=h
 obtain rfl:=Option.some.inj (hg.symm.trans hg')
 obtain rfl:=Option.some.inj (hty.symm.trans ht')
 unfold TabIs
 rw[hvar,<-cells_of_tab ht he hce hct hd]
theorem Amj {P:Program} {W:World} {name:String} {k:IntKind} {zs:List Int} {b:Nat} (hg:P.globalNamed name=some b) (h:TabIs P W name k zs):b<W.heap.size:=by
 unfold TabIs World.var? at h
 rw[hg]at h
 simp only[Option.bind_some]at h
 by_cases hb:b<W.heap.size
 ·exact hb
 ·rw[Array.getElem?_eq_none (by omega)]at h;cases h
end Go.Eng
namespace Go.Eng
open Go.Lib Go.RowKit Go.Sort
def iv (l:List Int):List Value:=l.map (Value.int .i64)
@[simp] theorem AD3 (l:List Int):(iv l).length=l.length:=by simp[iv]
theorem AsZ (l:List Int):Fj (iv l):=by
 intro v hv
 simp only[iv,List.mem_map]at hv
 obtain⟨x,_,rfl⟩:=hv
 rfl
structure Kept (F:Fr) (w':World):Prop where
 size:F.w0.heap.size<=w'.heap.size
 os:w'.os=F.w0.os
 tape:w'.tape=F.w0.tape
 output:w'.output=F.w0.output
 keep:∀b,b<F.w0.heap.size->F.own0 b=none->w'.heap[b]? =F.w0.heap[b]?
theorem Kept.refl (F:Fr):Kept F F.w0:=⟨Nat.le_refl _,rfl,rfl,rfl,fun _ _ _=>rfl⟩
theorem AAS {F:Fr} {given:List O} {k:Nat} {l:List Int} {x:Value} (inv:Inv F F.β0 F.own0 (hp given) F.w0) (hk:hp given k= .arr 1 0 l.length (T.ints l)) (h:VR F F.β0 F.own0 (hp given) F.w0 (.arr k) x):
 ∃a cap,x= .slice a l.length cap/\(l.length<=cap/\cap<=9223372036854775807)/\a=(F.β0 k).a/\cap=(F.β0 k).cap/\(cap=0∨∃b o,a=some ⟨b,o,none⟩/\F.own0 b=some (k,[])/\Has F.w0 b o (iv l) cap):=by
 have ho:=inv.objs k
 rw[hk]at ho
 obtain⟨vs,h1,h2,h3,h4,h5⟩:=ho
 have hv:vs=iv l:=by
  apply List.ext_getElem?
  intro i
  by_cases hi:i<l.length
  ·have hlen:vs.length=l.length:=by rw[h1];simp
   have e1:vs[i]? =some (vs[i]'(by omega)):=by simp[hlen,hi]
   have:=h5 i (.sc (.int .i64 l[i])) _ (by simp[hi]) e1
   rw[e1]
   generalize vs[i]'(by omega)=y at this
   cases this with
   | sc _=>simp[iv,hi]
  ·rw[List.getElem?_eq_none (by rw[h1];simp;omega),List.getElem?_eq_none (by simp;omega)]
 subst hv
 cases h with
 | @arr _ e t len cs he=>
  rw[hk]at he
  simp only[Ac,Option.some.injEq,Prod.mk.injEq]at he
  obtain⟨rfl,rfl,rfl,rfl⟩:=he
  refine⟨_,_,rfl,h3,rfl,rfl,?_⟩
  rcases h4 with h4 | ⟨b,o,h4,h6,h7⟩
  ·exact .inl (by omega)
  ·exact .inr ⟨b,o,h4,h6,by rw[Nat.mul_one]at h7;exact h7⟩
 | goneA hd=>rw[hk]at hd;cases hd
theorem Axj {P:Program} {Ae:Nat->Option FuncId} {G:Gl} {g:Nat} {args:List V} {given:List O} {l':List Int}
 (h:∀id,Ae g=some id->∀F:Fr,F.Ae=Ae->Inv F F.β0 F.own0 (hp given) F.w0->∀xs,Pw (VR F F.β0 F.own0 (hp given) F.w0) args xs->
  Calls P id xs.toArray F.w0 fun e w'=>∃a cap,e= .returned (.slice a l'.length cap)/\(l'.length<=cap/\cap<=9223372036854775807)/\(cap=0∨∃b o,a=some ⟨b,o,none⟩/\Has w' b o (iv l') cap/\(b<F.w0.heap.size->F.own0 b≠none))/\Kept F w'):
 Den P Ae G g args given (.sl 0 1 l'.length (T.ints l')) (given.map fun _=> .dead):=by
 intro id hid F hF hG hb ht hn inv xs hx
 refine(h id hid F hF inv xs hx).mono fun e w' ⟨a,cap,he,hl,hm,hk⟩=> ?_
 subst he
 have hcs:∀own (i:Nat) (v:V) (x:Value),(T.ints l')[i]? =some v->(iv l')[i]? =some x->Ow F.Ae w' own (fun _ b=>F.G b) 0 F.ngiven ([]++ [i]) v x:=by
  intro own i v x h1 h2
  by_cases hi:i<l'.length
  ·rw[T.ints_at hi]at h1
   simp only[iv,List.getElem?_map,hi,List.getElem?_eq_getElem,Option.map_some,Option.some.injEq]at h1 h2
   subst h1 h2
   exact .sc rfl
  ·rw[List.getElem?_eq_none (by simp;omega)]at h1;cases h1
 rcases hm with hm | ⟨b,o,rfl,hhas,hown⟩
 ·refine⟨fun _=>none,⟨hk.size,hk.os,hk.tape,hk.output,hk.keep,fun b p h=>(by cases h),.own hl (by simp) (by simp) (.inl (by omega)) (hcs _),by simp[hn],fun i o hi=> ?_⟩⟩
  simp only[List.getElem?_map,Option.map_eq_some_iff]at hi
  obtain⟨_,_,rfl⟩:=hi
  trivial
 ·refine⟨fun b'=>if b' =b then some (F.ngiven,[])else none,⟨hk.size,hk.os,hk.tape,hk.output,hk.keep,fun b' p h=> ?_,.own hl (by simp) (by simp) (.inr ⟨b,o,rfl,if_pos rfl,by rw[Nat.mul_one];exact hhas⟩) (hcs _),by simp[hn],fun i o' hi=> ?_⟩⟩
  ·by_cases e:b' =b
   ·subst e;exact⟨TT hhas,hown⟩
   ·rw[if_neg e]at h;cases h
  ·simp only[List.getElem?_map,Option.map_eq_some_iff]at hi
   obtain⟨_,_,rfl⟩:=hi
   trivial
theorem AJB {P:Program} {Ae:Nat->Option FuncId} {G:Gl} {g:Nat} {l l':List Int} (hll:l'.length=l.length)
 (h:∀id,Ae g=some id->∀F:Fr,F.Ae=Ae->Inv F F.β0 F.own0 (hp [.arr 1 0 l.length (T.ints l)]) F.w0->∀a cap,l.length<=cap->(cap=0∨∃b o,a=some ⟨b,o,none⟩/\F.own0 b=some (0,[])/\Has F.w0 b o (iv l) cap)->
  Calls P id #[.slice a l.length cap] F.w0 fun e w'=>e= .returned (.tuple #[])/\(cap=0∨∃b o,a=some ⟨b,o,none⟩/\Has w' b o (iv l') cap)/\Kept F w'):
 Den P Ae G g [.arr 0] [.arr 1 0 l.length (T.ints l)] (.tup []) [.arr 1 0 l.length (T.ints l')]:=by
 intro id hid F hF hG hb ht hn inv xs hx
 obtain⟨x,r,rfl,h1,h2⟩:=hx.Nf
 obtain rfl:=h2.N8
 obtain⟨a,cap,rfl,hl,ha,hc,hm⟩:=AAS inv rfl h1
 refine(h id hid F hF inv a cap hl.1 hm).mono fun e w' ⟨he,hm',hk⟩=> ?_
 subst he
 refine⟨F.own0,⟨hk.size,hk.os,hk.tape,hk.output,hk.keep,fun b p h=>⟨Nat.lt_of_lt_of_le (inv.ownb b p h).1 hk.size,fun _=>by rw[h];simp⟩,.tup (vs:=[]) rfl (fun i v x h _=>by simp at h),by rw[hn];rfl,fun i o hi=> ?_⟩⟩
 match i,hi with
 | 0,hi=>
  simp only[List.getElem?_cons_zero,Option.some.injEq]at hi
  subst hi
  refine⟨rfl,iv l',by simp,by simp[hll],by rw[<-hc];exact hl,?_,?_⟩
  ·rcases hm with hm | ⟨b,o,e1,e2,e3⟩
   ·exact .inl (by rw[<-hc,hm])
   ·rcases hm' with hm' | ⟨b',o',e1',e2'⟩
    ·exact .inl (by rw[<-hc,hm'])
    ·rw[e1]at e1'
     cases e1'
     exact .inr ⟨b,o,by rw[<-ha,e1],e2,by rw[<-hc,Nat.mul_one];exact e2'⟩
  ·intro i v x h1 h2
   by_cases hi:i<l'.length
   ·rw[T.ints_at hi]at h1
    simp only[iv,List.getElem?_map,hi,List.getElem?_eq_getElem,Option.map_some,Option.some.injEq]at h1 h2
    subst h1 h2
    exact .sc rfl
   ·rw[List.getElem?_eq_none (by simp;omega)]at h1;cases h1
 | i+1,hi=>simp at hi
end Go.Eng
namespace Go.Eng
open Go.Lib Go.RowKit Go.Sort
theorem Auo (w:World) (b:Nat) (f:Array Value->Array Value):(mapBlock w b f).heap[b]? =(w.heap[b]?).map (onCells f):=by
 simp[mapBlock,Array.getElem?_modify]
theorem Auh (w:World) {b k:Nat} (f:Array Value->Array Value) (h:k≠b):(mapBlock w b f).heap[k]? =w.heap[k]? :=by
 simp[mapBlock,Array.getElem?_modify,Ne.symm h]
theorem AsE (w:World) (b:Nat) (f:Array Value->Array Value):(mapBlock w b f).heap.size=w.heap.size:=by simp[mapBlock]
theorem AxA {w w':World} {b o n:Nat} {vs vs':List Value} {f:Array Value->Array Value} (h:Has w b o vs n) (hw:w'.heap[b]? =(w.heap[b]?).map (onCells f)) (hs:∀c,(f c).size=c.size)
 (hf:∀c:Array Value,o+n<=c.size->(∀i,i<vs.length->c[o+i]? =vs[i]?)->∀i,i<vs'.length->(f c)[o+i]? =vs'[i]?) (ho:Fj vs') (hl:vs'.length<=n):Has w' b o vs' n:=by
 obtain⟨_,c,et,hb,h2,h3,h4⟩:=h
 exact⟨ho,f c,et,by rw[hw,hb];rfl,by rw[hs];exact h2,hl,hf c h2 h4⟩
theorem AFb {w:World} {b o n:Nat} {l:List Int} (h:Has w b o (iv l) n):Holds (Value.int .i64) w b o l.toArray:=by
 intro j hj
 simp only[List.size_toArray]at hj
 have hr:=(DF h).2 j (by simpa using hj)
 obtain⟨_,c,et,hb,_,_,_⟩:=h
 refine⟨?_,?_⟩
 ·rw[hr]
  simp[iv,hj]
 ·unfold World.frozen?
  simp only[hb]
  simp
theorem AwV {α:Type} [Inhabited α] (enc:α->Value) (o:Nat) (d:Array α) (c:Array Value):(putCells enc o d c).size=c.size:=by simp[putCells]
theorem AB7 (l:List Int) (o:Nat) (c:Array Value) {i:Nat} (hi:i<l.length) (hc:o+i<c.size):(putCells (Value.int .i64) o l.toArray c)[o+i]? =(iv l)[i]? :=by
 simp only[putCells,Array.getElem?_mapIdx,Array.getElem?_eq_getElem hc,Option.map_some]
 rw[if_pos ⟨by omega,by simp;omega⟩]
 simp[iv,hi]
def AHq (l:List Int):List Int:=l.mergeSort fun x y=>decide (x<=y)
theorem ABt (l:List Int):(AHq l).length=l.length:=by simp[AHq]
theorem AJ0 {P:Program} {Ae:Nat->Option FuncId} {G:Gl} {g k:Nat} (hid:Ae g=some k)
 (h0:∀(p:Option Addr) (cap:Nat) (w:World),Calls P k #[.slice p 0 cap] w fun e w'=>e= .returned (.tuple #[])/\w' =w)
 (hc:∀(blk off cap:Nat) (zs:List Int) (w:World),Holds (Value.int .i64) w blk off zs.toArray->blk<w.heap.size->zs.length<4611686018427387904->
  Calls P k #[.slice (some ⟨blk,off,none⟩) zs.length cap] w fun e w'=>e= .returned (.tuple #[])/\∃n os,w' =grow (putRow (Value.int .i64) (Sort.ahead w n) blk off (zs.mergeSort fun x y=>decide (x<=y)).toArray) os)
 (l:List Int) (hl:l.length<=4194304):Den P Ae G g [.arr 0] [.arr 1 0 l.length (T.ints l)] (.tup []) [.arr 1 0 l.length (T.ints (AHq l))]:=by
 refine AJB (ABt l) fun id hi F hF inv a cap hcap hm=> ?_
 rw[hid]at hi
 cases hi
 rcases hm with hm | ⟨b,o,rfl,hown,hhas⟩
 ·subst hm
  have:l=[]:=List.eq_nil_of_length_eq_zero (by omega)
  subst this
  refine(h0 a 0 F.w0).mono fun e w' ⟨he,hw⟩=>⟨he,.inl rfl,?_⟩
  rw[hw];exact Kept.refl F
 ·refine(hc b o cap l F.w0 (AFb hhas) (TT hhas) (by omega)).mono fun e w' ⟨he,n,os,hw⟩=>⟨he,.inr ⟨b,o,rfl,?_⟩,?_⟩
  ·refine AxA (f:=putCells (Value.int .i64) o (AHq l).toArray) hhas ?_ (AwV _ _ _) (fun c h1 _ i h2=> ?_) (AsZ _) (by simp[ABt];exact hcap)
   ·have hb:=TT hhas
    rw[hw]
    simp only[grow,putRow]
    rw[Array.getElem?_append,if_pos (by rw[AsE];exact hb),Auo]
    rfl
   ·simp only[AD3]at h2
    exact AB7 (AHq l) o c h2 (by rw[ABt]at h2;omega)
  ·rw[hw]
   refine⟨by simp[grow,putRow,AsE,Sort.ahead],rfl,rfl,rfl,fun b' h1 h2=> ?_⟩
   have hne:b'≠b:=by intro e;rw[e,hown]at h2;cases h2
   simp only[grow,putRow]
   rw[Array.getElem?_append,if_pos (by rw[AsE];exact h1),Auh _ _ hne]
   rfl
theorem AHm {P:Program} {Ae:Nat->Option FuncId} {G:Gl} {g k:Nat} (hid:Ae g=some k)
 (h0:∀(p:Option Addr) (cap:Nat) (w:World),Calls P k #[.slice p 0 cap] w fun e w'=>e= .returned (.slice p 0 cap)/\w' =w)
 (hc:∀(blk off cap:Nat) (zs:List Int) (w:World),Holds (Value.int .i64) w blk off zs.toArray->zs.length<=9223372036854775807->zs.length<=cap->
  Calls P k #[.slice (some ⟨blk,off,none⟩) zs.length cap] w fun e w'=>e= .returned (.slice (some ⟨blk,off,none⟩) (compact zs).length cap)/\∃q,w' =putRow (Value.int .i64) (Sort.ahead w q) blk off (compact zs++List.replicate (zs.length-(compact zs).length) 0).toArray)
 (l:List Int) (hl:l.length<=4194304) (hcl:(compact l).length<=l.length):Den P Ae G g [.arr 0] [.arr 1 0 l.length (T.ints l)] (.sl 0 1 (compact l).length (T.ints (compact l))) [.dead]:=by
 refine Axj (given:=[.arr 1 0 l.length (T.ints l)]) fun id hi F hF inv xs hx=> ?_
 rw[hid]at hi
 cases hi
 obtain⟨x,r,rfl,h1,h2⟩:=hx.Nf
 obtain rfl:=h2.N8
 obtain⟨a,cap,rfl,hcap,_,_,hm⟩:=AAS inv rfl h1
 rcases hm with hm | ⟨b,o,rfl,hown,hhas⟩
 ·subst hm
  have:l=[]:=List.eq_nil_of_length_eq_zero (by omega)
  subst this
  refine(h0 a 0 F.w0).mono fun e w' ⟨he,hw⟩=>⟨a,0,he,⟨Nat.le_refl _,by omega⟩,.inl rfl,?_⟩
  rw[hw];exact Kept.refl F
 ·refine(hc b o cap l F.w0 (AFb hhas) (by omega) hcap.1).mono fun e w' ⟨he,q,hw⟩=>⟨_,cap,he,⟨by omega,hcap.2⟩,.inr ⟨b,o,rfl,?_,fun _=>by rw[hown];simp⟩,?_⟩
  ·refine AxA (f:=putCells (Value.int .i64) o (compact l++List.replicate (l.length-(compact l).length) 0).toArray) hhas ?_ (AwV _ _ _) (fun c h1 _ i h2=> ?_) (AsZ _) (by simp;omega)
   ·rw[hw]
    simp only[putRow]
    rw[Auo]
    rfl
   ·simp only[AD3]at h2
    rw[AB7 _ o c (by simp;omega) (by omega)]
    simp[iv,List.getElem?_append,h2]
  ·rw[hw]
   refine⟨by simp[putRow,AsE,Sort.ahead],rfl,rfl,rfl,fun b' h1 h2=> ?_⟩
   have hne:b'≠b:=by intro e;rw[e,hown]at h2;cases h2
   simp only[putRow]
   rw[Auh _ _ hne]
   rfl
end Go.Eng
namespace Go.Eng
open Go.Lib Go.RowKit Go.Sort
def sv (l:List (List UInt8)):List Value:=l.map fun x=>Value.string (T.Ww x)
@[simp] theorem AKo (l:List (List UInt8)):(sv l).length=l.length:=by simp[sv]
theorem AGa (l:List (List UInt8)):Fj (sv l):=by
 intro v hv
 simp only[sv,List.mem_map]at hv
 obtain⟨x,_,rfl⟩:=hv
 rfl
theorem ALx {l:List (List UInt8)} {i:Nat} {v:V} {x:Value} (h1:(T.strs l)[i]? =some v) (h2:(sv l)[i]? =some x):v= .sc x:=by
 by_cases hi:i<l.length
 ·simp only[T.strs,sv,List.getElem?_map,hi,List.getElem?_eq_getElem,Option.map_some,Option.some.injEq]at h1 h2
  rw[<-h1,<-h2]
 ·rw[List.getElem?_eq_none (by simp;omega)]at h1;cases h1
theorem AJ3 {F:Fr} {given:List O} {k:Nat} {l:List (List UInt8)} {x:Value} (inv:Inv F F.β0 F.own0 (hp given) F.w0) (hk:hp given k= .arr 1 0 l.length (T.strs l)) (h:VR F F.β0 F.own0 (hp given) F.w0 (.arr k) x):
 ∃a cap,x= .slice a l.length cap/\(l.length<=cap/\cap<=9223372036854775807)/\(cap=0∨∃b o,a=some ⟨b,o,none⟩/\F.own0 b=some (k,[])/\Has F.w0 b o (sv l) cap):=by
 have ho:=inv.objs k
 rw[hk]at ho
 obtain⟨vs,h1,h2,h3,h4,h5⟩:=ho
 have hv:vs=sv l:=by
  apply List.ext_getElem?
  intro i
  by_cases hi:i<l.length
  ·have hlen:vs.length=l.length:=by rw[h1];simp
   have e1:vs[i]? =some (vs[i]'(by omega)):=by simp[hlen,hi]
   have:=h5 i (.sc (.string (T.Ww l[i]))) _ (by simp[T.strs,hi]) e1
   rw[e1]
   generalize vs[i]'(by omega)=y at this
   cases this with
   | sc _=>simp[sv,hi]
  ·rw[List.getElem?_eq_none (by rw[h1];simp;omega),List.getElem?_eq_none (by simp;omega)]
 subst hv
 cases h with
 | @arr _ e t len cs he=>
  rw[hk]at he
  simp only[Ac,Option.some.injEq,Prod.mk.injEq]at he
  obtain⟨rfl,rfl,rfl,rfl⟩:=he
  refine⟨_,_,rfl,h3,?_⟩
  rcases h4 with h4 | ⟨b,o,h4,h6,h7⟩
  ·exact .inl (by omega)
  ·exact .inr ⟨b,o,h4,h6,by rw[Nat.mul_one]at h7;exact h7⟩
 | goneA hd=>rw[hk]at hd;cases hd
theorem AD9 {P:Program} {Ae:Nat->Option FuncId} {G:Gl} {g:Nat} {args:List V} {given:List O} {l':List (List UInt8)}
 (h:∀id,Ae g=some id->∀F:Fr,F.Ae=Ae->F.G=G->Inv F F.β0 F.own0 (hp given) F.w0->∀xs,Pw (VR F F.β0 F.own0 (hp given) F.w0) args xs->
  Calls P id xs.toArray F.w0 fun e w'=>∃a cap,e= .returned (.slice a l'.length cap)/\(l'.length<=cap/\cap<=9223372036854775807)/\(cap=0∨∃b o,a=some ⟨b,o,none⟩/\Has w' b o (sv l') cap/\(b<F.w0.heap.size->F.own0 b≠none))/\Kept F w'):
 Den P Ae G g args given (.sl 0 1 l'.length (T.strs l')) (given.map fun _=> .dead):=by
 intro id hid F hF hG hb ht hn inv xs hx
 refine(h id hid F hF hG inv xs hx).mono fun e w' ⟨a,cap,he,hl,hm,hk⟩=> ?_
 subst he
 have hcs:∀own (i:Nat) (v:V) (x:Value),(T.strs l')[i]? =some v->(sv l')[i]? =some x->Ow F.Ae w' own (fun _ b=>F.G b) 0 F.ngiven ([]++ [i]) v x:=by
  intro own i v x h1 h2
  rw[ALx h1 h2]
  exact .sc (AGa l' x (List.mem_of_getElem? h2))
 rcases hm with hm | ⟨b,o,rfl,hhas,hown⟩
 ·refine⟨fun _=>none,⟨hk.size,hk.os,hk.tape,hk.output,hk.keep,fun b p h=>(by cases h),.own hl (by simp) (by simp) (.inl (by omega)) (hcs _),by simp[hn],fun i o hi=> ?_⟩⟩
  simp only[List.getElem?_map,Option.map_eq_some_iff]at hi
  obtain⟨_,_,rfl⟩:=hi
  trivial
 ·refine⟨fun b'=>if b' =b then some (F.ngiven,[])else none,⟨hk.size,hk.os,hk.tape,hk.output,hk.keep,fun b' p h=> ?_,.own hl (by simp) (by simp) (.inr ⟨b,o,rfl,if_pos rfl,by rw[Nat.mul_one];exact hhas⟩) (hcs _),by simp[hn],fun i o' hi=> ?_⟩⟩
  ·by_cases e:b' =b
   ·subst e;exact⟨TT hhas,hown⟩
   ·rw[if_neg e]at h;cases h
  ·simp only[List.getElem?_map,Option.map_eq_some_iff]at hi
   obtain⟨_,_,rfl⟩:=hi
   trivial
theorem AJz (w:World) (o:Obj):(w.alloc o).heap[w.heap.size]? =some o:=by
 show(w.heap.push o)[w.heap.size]? =some o
 rw[Array.getElem?_push,if_pos rfl]
theorem AIc (w:World) (o:Obj) {k:Nat} (h:k<w.heap.size):(w.alloc o).heap[k]? =w.heap[k]? :=by
 show(w.heap.push o)[k]? =w.heap[k]?
 rw[Array.getElem?_push,if_neg (by omega)]
theorem AGM (w:World) (o:Obj):(w.alloc o).heap.size=w.heap.size+1:=Array.size_push _
def pieces (l:List UInt8) (c:UInt8):List (List UInt8):=(splitB (T.Ww [c]) 0 (countB (T.Ww l) (T.Ww [c])) (T.Ww l)).map (·.data.toList)
abbrev AF3 (R:T.Rel):Prop:=∀(l:List UInt8) (c:UInt8),l.length<=4194304->R [T.Sb l,T.Sb [c]] [] (.sl 0 1 (pieces l c).length (T.strs (pieces l c))) []
abbrev AFm (R:T.Rel):Prop:=∀(ws:List (List UInt8)),ws.length<=4194304->ws≠ []->R [.arr 0,.fn 36 []] [.arr 1 0 ws.length (T.strs ws)] (.sl 0 1 (ws.filter fun w=> !decide (w=[])).length (T.strs (ws.filter fun w=> !decide (w=[])))) [.dead]
theorem AHM (l:List UInt8) (c:UInt8):(pieces l c).length=countB (T.Ww l) (T.Ww [c])+1:=by
 unfold pieces
 rw[List.length_map]
 exact splitB_all _ (by simp) 0 _ _ rfl
theorem AFf (l:List UInt8) (c:UInt8):sv (pieces l c)=(splitB (T.Ww [c]) 0 (countB (T.Ww l) (T.Ww [c])) (T.Ww l)).map Value.string:=by
 unfold sv pieces
 rw[List.map_map]
 refine List.map_congr_left fun x _=> ?_
 show Value.string (T.Ww x.data.toList)=Value.string x
 congr 1
theorem AJi {P:Program} {Ae:Nat->Option FuncId} {G:Gl} {g k b:Nat} {t:TypeId} {W:World} {m:Int} (hid:Ae g=some k) (hb:G b) (hW:G.is b=W.heap[b]?) (hm:W.cell? ⟨b,0,none⟩=some (.int .i64 m))
 (hc:∀(s sep:ByteArray) (m:Int) (w:World),s.size<4294967281->w.cell? ⟨b,0,none⟩=some (.int .i64 m)->1<=sep.size->
  Calls P k #[.string s,.string sep] w fun e w'=>
   e= .returned (.slice (some ⟨w.heap.size,0,none⟩) (countB s sep+1) (countB s sep+1))/\w' =w.alloc (.cells ((splitB sep 0 (countB s sep) s).map Value.string).toArray t)):AF3 (Den P Ae G g):=by
 intro l c hl
 refine AD9 (given:=[]) fun id hid' F hF hG inv xs hx=> ?_
 rw[hid]at hid'
 cases hid'
 obtain⟨x0,r0,rfl,h1,h2⟩:=hx.Nf
 obtain⟨x1,r1,rfl,h3,h4⟩:=h2.Nf
 obtain rfl:=h4.N8
 have e0:=JE h1
 have e1:=JE h3
 subst e0 e1
 have hg:=inv.glob b (by rw[hG];exact hb)
 have hh:F.w0.heap[b]? =W.heap[b]? :=by rw[hg.2.2,hG,hW]
 have hcell:F.w0.cell? ⟨b,0,none⟩=some (.int .i64 m):=by
  rw[<-hm]
  simp only[World.cell?,hh]
 have hsz:(T.Ww l).size<4294967281:=by rw[T.ArQ];omega
 have h1s:1<=(T.Ww [c]).size:=by rw[T.ArQ];simp
 have hle:=countB_le (T.Ww [c]) h1s _ (T.Ww l) (Nat.le_refl _)
 rw[T.ArQ]at hle
 refine(hc (T.Ww l) (T.Ww [c]) m F.w0 hsz hcell h1s).mono fun e w' ⟨he,hw'⟩=> ?_
 have hpl:=AHM l c
 refine⟨some ⟨F.w0.heap.size,0,none⟩,countB (T.Ww l) (T.Ww [c])+1,by rw[he,hpl],⟨by omega,by omega⟩,.inr ⟨F.w0.heap.size,0,rfl,⟨AGa _,_,t,by rw[hw'];exact AJz _ _,?_,by rw[AKo,hpl];exact Nat.le_refl _,?_⟩,fun h=>absurd h (by omega)⟩,?_⟩
 ·rw[<-AFf];simp[hpl]
 ·intro i hi
  rw[<-AFf];simp
 ·rw[hw']
  refine⟨by rw[AGM];omega,rfl,rfl,rfl,fun b' hb' _=>AIc _ _ hb'⟩
theorem AK4 {w:World} {b o n:Nat} {l:List (List UInt8)} (h:Has w b o (sv l) n):Holds Value.string w b o (l.map T.Ww).toArray:=by
 intro j hj
 simp only[List.size_toArray,List.length_map]at hj
 have hr:=(DF h).2 j (by simpa using hj)
 obtain⟨_,c,et,hb,_,_,_⟩:=h
 refine⟨?_,?_⟩
 ·rw[hr]
  simp[sv,hj]
 ·unfold World.frozen?
  simp only[hb]
  simp
theorem AI9 (l:List (List UInt8)) (o:Nat) (c:Array Value) {i:Nat} (hi:i<l.length) (hc:o+i<c.size):(putCells Value.string o (l.map T.Ww).toArray c)[o+i]? =(sv l)[i]? :=by
 simp only[putCells,Array.getElem?_mapIdx,Array.getElem?_eq_getElem hc,Option.map_some]
 rw[if_pos ⟨by omega,by simp;omega⟩]
 simp[sv,hi]
theorem AJk (w:List UInt8):decide (T.Ww w=ByteArray.empty)=decide (w=[]):=by
 have:(T.Ww w=ByteArray.empty)↔w=[]:=by
  constructor
  ·intro h
   have h2:=congrArg ByteArray.size h
   rw[T.ArQ]at h2
   exact List.eq_nil_of_length_eq_zero h2
  ·intro h;subst h;rfl
 simp[this]
theorem AIp (ws:List (List UInt8)):(ws.map T.Ww).filter (fun x=> !decide (x=ByteArray.empty))=(ws.filter fun w=> !decide (w=[])).map T.Ww:=by
 rw[List.filter_map]
 congr 1
 apply List.filter_congr
 intro w _
 show(!decide (T.Ww w=ByteArray.empty))=_
 rw[AJk]
theorem AIm {P:Program} {Ae:Nat->Option FuncId} {G:Gl} {g k k36:Nat} (hid:Ae g=some k) (hid36:Ae 36=some k36)
 (hc:∀(blk off cap:Nat) (d:Array ByteArray) (w:World),Holds Value.string w blk off d->d.size<=9223372036854775807->d.size<=cap->
  Calls P k #[.slice (some ⟨blk,off,none⟩) d.size cap,.func (.func k36) #[] #[]] w fun e w'=>e= .returned (.slice (some ⟨blk,off,none⟩) (d.toList.filter fun x=> !decide (x=ByteArray.empty)).length cap)/\
   ∃q,w' =putRow Value.string (Sort.ahead w q) blk off ((d.toList.filter fun x=> !decide (x=ByteArray.empty))++List.replicate (d.size-(d.toList.filter fun x=> !decide (x=ByteArray.empty)).length) ByteArray.empty).toArray):AFm (Den P Ae G g):=by
 intro ws hl hne
 refine AD9 (given:=[.arr 1 0 ws.length (T.strs ws)]) fun id hid' F hF hG inv xs hx=> ?_
 rw[hid]at hid'
 cases hid'
 obtain⟨x0,r0,rfl,h1,h2⟩:=hx.Nf
 obtain⟨x1,r1,rfl,h3,h4⟩:=h2.Nf
 obtain rfl:=h4.N8
 obtain⟨a,cap,rfl,hcap,hm⟩:=AJ3 inv rfl h1
 have hx1:x1= .func (.func k36) #[] #[]:=by
  cases h3 with
  | fn hf hl hc=>
   rename_i vs
   rw[hF,hid36]at hf
   cases hf
   have:vs=[]:=List.eq_nil_of_length_eq_zero (by simpa using hl)
   subst this;rfl
 subst hx1
 have hpos:0<ws.length:=List.length_pos_iff.2 hne
 rcases hm with hm | ⟨b,o,rfl,hown,hhas⟩
 ·omega
 have hd:(ws.map T.Ww).toArray.size=ws.length:=by simp
 have hcall:=hc b o cap (ws.map T.Ww).toArray F.w0 (AK4 hhas) (by rw[hd];omega) (by rw[hd];exact hcap.1)
 simp only[hd,List.toList_toArray]at hcall
 rw[AIp,List.length_map]at hcall
 have hfl:=List.length_filter_le (fun w:List UInt8=> !decide (w=[])) ws
 generalize(ws.filter fun w=> !decide (w=[]))=ks at hcall hfl⊢
 refine hcall.mono fun e w' ⟨he,q,hw⟩=>⟨_,cap,he,⟨by omega,hcap.2⟩,.inr ⟨b,o,rfl,?_,fun _=>by rw[hown];simp⟩,?_⟩
 ·have hrow:(ks.map T.Ww++List.replicate (ws.length-ks.length) ByteArray.empty)=(ks++List.replicate (ws.length-ks.length) []).map T.Ww:=by
   rw[List.map_append,List.map_replicate];rfl
  rw[hrow]at hw
  refine AxA (f:=putCells Value.string o ((ks++List.replicate (ws.length-ks.length) []).map T.Ww).toArray) hhas ?_ (AwV _ _ _) (fun c h1 _ i h2=> ?_) (AGa _) (by simp;omega)
  ·rw[hw]
   simp only[putRow]
   rw[Auo]
   rfl
  ·simp only[AKo]at h2
   rw[AI9 _ o c (by simp;omega) (by omega)]
   simp[sv,List.getElem?_append,h2]
 ·rw[hw]
  refine⟨by simp[putRow,AsE,Sort.ahead],rfl,rfl,rfl,fun b' h1 h2=> ?_⟩
  have hne:b'≠b:=by intro e;rw[e,hown]at h2;cases h2
  simp only[putRow]
  rw[Auh _ _ hne]
  rfl
end Go.Eng
namespace Go.Eng.T
open Go.Lib
set_option maxRecDepth 20000
set_option maxHeartbeats 8000000
theorem AIF {w:List UInt8} (h1:w≠ [108,105,109,105,116]) (h2:w≠ [115,116,114,105,112]) (h3:kindOf w=0) (n:List Int):Ark w n=⟨0,0,AsO⟩:=by
 rw[AC3 (fun h=>h1 h.1) (fun h=>h2 h.1),h3]
 rfl
theorem ADf (D:Dn) (hSp:Go.Eng.AF3 (D 14)) (hDf:Go.Eng.AFm (D 37)) (hWo:∀l:List UInt8,(Go.Eng.pieces l 32).filter (fun w=> !decide (w=[]))=Awt l/\(Go.Eng.pieces l 32).length<=l.length+1/\Go.Eng.pieces l 32≠ [])
 (hC:EF (D 38)) (hNs:AIO ADv (D 39)) (hLW:AF2 (D 43)) (hTA:AC8 (D 44))
 (hEv:AyW (D 40)) (hAp:MS (D 41)) (hTd:AIM (D 42)) (hN0:AKC (D 46)) (hN1:AIS (D 45)):AGB (Body D AtQ):=by
 intro w l ok hw hl
 have hsz:=ok.sz
 have hwo:=AHa l
 obtain⟨q1,q2,q3⟩:=hWo l
 simp -implicitDefEqProofs
 refine Aa (show _ from hSp l 32 (by omega)) ?_
 simp -implicitDefEqProofs
 refine Aa (show _ from hDf (Go.Eng.pieces l 32) (by omega) q3) ?_
 rw[q1]
 unfold AsN
 cases hws:Awt l with
 | nil=>
  by_cases h2:l.length>200
  ·have h2':200<(l.length:Int):=by omega
   simp -implicitDefEqProofs [h2,h2']
   refine Aa (hC w hsz) ?_
   simp -implicitDefEqProofs [Atb]
  ·have h2':¬200<(l.length:Int):=by omega
   simp -implicitDefEqProofs [h2,h2']
   refine Aa (hC w hsz) ?_
   simp -implicitDefEqProofs [Atb]
 | cons word r=>
  rw[hws]at hwo
  have hlr:=hwo.1
  simp only[List.length_cons]at hlr
  by_cases h2:l.length>200
  ·have h2':200<(l.length:Int):=by omega
   have c0:¬((r.length:Int)+1=0):=by omega
   simp -implicitDefEqProofs [h2,h2',c0]
   refine Aa (hC w hsz) ?_
   simp -implicitDefEqProofs [Atb]
  ·have h2':¬200<(l.length:Int):=by omega
   have c0:¬((r.length:Int)+1=0):=by omega
   have c1:(1:Int)<=r.length+1:=by omega
   have e6:((r.length:Int)+1).toNat=r.length+1:=by omega
   have e5:part (strs (word::r)) 1 1 r.length=strs r:=by
    simp only[part,strs,List.map_cons,Nat.one_mul,Nat.mul_one,List.drop_succ_cons,List.drop_zero]
    rw[List.take_of_length_le (by simp)]
   simp -implicitDefEqProofs [h2,h2',c0,c1,e5,e6]
   have hwr:ALs r:=⟨by omega,fun x hx=>by have:=(hwo.2 x (List.mem_cons_of_mem _ hx)).2;omega⟩
   refine Aa (hNs r hwr) ?_
   by_cases ha:Au2 r=true
   rotate_left
   ·have ha':Au2 r=false:=by simpa using ha
    simp -implicitDefEqProofs [ha']
    refine Aa (hC w hsz) ?_
    simp -implicitDefEqProofs [Atb]
   have hnl:=ADn r
   have hrg:=AKJ r
   have hst:(strs (word::r))[0]? =some (Sb word):=rfl
   have hr0:(0:Int)<=r.length:=by omega
   rw[AJ7 ha]
   generalize numsOf r=n at hnl hrg
   have hn1:n.length<=4194000:=by omega
   simp -implicitDefEqProofs [ha]
   rw[<-hnl]
   clear hnl
   have hk:=AIT word
   have hword:word≠ []:=(hwo.2 word (by simp)).1
   have hee:=hEv word n (by omega) hword
   have hse:=AGF word n
   refine Aa (show _ from hee) ?_
   clear hee
   by_cases ke:0<(Ark word n).kind
   ·have e:Ax7 w word n=((AA w (Ark word n)).1,if(AA w (Ark word n)).2=true then wOk else wNo):=by
     have z1:¬(word=[119,111,114,108,100]/\n≠ []):=by
      rintro ⟨a,_⟩
      rw[AIF (by rw[a];decide) (by rw[a];decide) (by rw[a];decide) n]at ke
      exact absurd ke (by decide)
     have z2:¬(word=[97,108,108]/\n=[]):=by
      rintro ⟨a,_⟩
      rw[AIF (by rw[a];decide) (by rw[a];decide) (by rw[a];decide) n]at ke
      exact absurd ke (by decide)
     unfold Ax7
     rw[if_neg z1,if_neg z2,if_pos ke]
    rw[e]
    generalize Ark word n=ev at hse ke⊢
    obtain⟨kd,en,⟨el,ed,es,ex⟩⟩:=ev
    have ke':0<kd:=ke
    simp -implicitDefEqProofs [ke']
    refine Aa (hAp w ⟨kd,en,⟨el,ed,es,ex⟩⟩ hsz (by omega)) ?_
    generalize AA w ⟨kd,en,⟨el,ed,es,ex⟩⟩=p
    obtain⟨x,dn⟩:=p
    simp -implicitDefEqProofs
    refine Aa (hTd dn) ?_
    simp -implicitDefEqProofs [wOk,wNo]
   ·have hsd:Ax7 w word n=if word=[119,111,114,108,100]/\n≠ []then(if(AnV (n.getD 0 0) n.tail).2=true then((AnV (n.getD 0 0) n.tail).1,wOk)else(w,wNo))
     else if word=[97,108,108]/\n=[]then(AGj w,wOk)else if n.length=0 then(w,(AsK w word).getD Atb)else if n.length=1 then(w,(At3 w word (n.getD 0 0)).getD Atb)else(w,Atb):=by
     unfold Ax7;rw[if_neg ke]
    rw[hsd]
    clear hsd
    generalize Ark word n=ev at hse ke⊢
    obtain⟨kd,en,⟨el,ed,es,ex⟩⟩:=ev
    have ke':¬0<kd:=ke
    simp -implicitDefEqProofs [ke']
    refine Aa (hC w hsz) ?_
    by_cases w1:word=[119,111,114,108,100]/\n≠ []
    ·obtain⟨w1a,w1b⟩:=w1
     cases n with
     | nil=>exact absurd rfl w1b
     | cons x st=>
      have hlw:=hLW x st (by simp at hn1;omega)
      have p0:(0:Int)<(st.length:Int)+1+1:=by omega
      have p1:(0:Int)<(st.length:Int)+1:=by omega
      have p2:(1:Int)<=(st.length:Int)+1:=by omega
      have p3:((st.length:Int)+1).toNat=st.length+1:=by omega
      have p4:part (ints (x::st)) 1 1 st.length=ints st:=by
       simp only[part,ints,List.map_cons,Nat.one_mul,Nat.mul_one,List.drop_succ_cons,List.drop_zero]
       rw[List.take_of_length_le (by simp)]
      simp -implicitDefEqProofs [w1a,hst,p0,p1,p2,p3,p4]
      refine Aa (show _ from hlw) ?_
      generalize AnV x st=p
      obtain⟨y,dn⟩:=p
      cases dn
      ·simp -implicitDefEqProofs [wNo]
      ·simp -implicitDefEqProofs [wOk]
    rw[if_neg w1]
    have pn:(0:Int)<(n.length:Int)+1:=by omega
    by_cases w2:word=[97,108,108]/\n=[]
    ·obtain⟨w2a,rfl⟩:=w2
     simp -implicitDefEqProofs [w2a,hst]
     refine Aa (hTA w hw) ?_
     simp -implicitDefEqProofs [wOk]
    rw[if_neg w2]
    by_cases a1:word=[119,111,114,108,100]
    ·have hn:n=[]:=by
      by_cases hn:n=[]
      ·exact hn
      ·exact absurd ⟨a1,hn⟩ w1
     subst hn
     subst a1
     simp -implicitDefEqProofs [hst]
     refine Aa (hN0 w _ ok) ?_
     simp -implicitDefEqProofs [AsK,Atb]
    ·by_cases l0:n=[]
     ·subst l0
      have a2:¬word=[97,108,108]:=fun h=>w2 ⟨h,rfl⟩
      simp -implicitDefEqProofs [a1,a2,hst]
      refine Aa (hN0 w _ ok) ?_
      generalize AsK w word=a
      cases a
      ·simp -implicitDefEqProofs [Atb]
      ·simp -implicitDefEqProofs
     ·have ll:¬n.length=0:=fun h=>l0 (List.eq_nil_of_length_eq_zero h)
      have l0':¬(n.length:Int)=0:=by omega
      by_cases l1:n.length=1
      ·obtain⟨x,rfl⟩:=AJN l1
       by_cases a2:word=[97,108,108]
       ·subst a2
        simp -implicitDefEqProofs [hst]
        refine Aa (hN1 w _ x ok (hrg x (by simp))) ?_
        simp -implicitDefEqProofs [At3,Atb]
       ·simp -implicitDefEqProofs [a1,a2,hst]
        refine Aa (hN1 w _ x ok (hrg x (by simp))) ?_
        generalize At3 w word x=a
        cases a
        ·simp -implicitDefEqProofs [Atb]
        ·simp -implicitDefEqProofs
      ·have l1':¬(n.length:Int)=1:=by omega
       by_cases a2:word=[97,108,108]
       ·subst a2
        simp -implicitDefEqProofs [hst,l0,l1,l0',l1',ll,pn]
        simp -implicitDefEqProofs [Atb]
       ·simp -implicitDefEqProofs [a1,a2,hst,l0,l1,l0',l1',ll,pn]
        simp -implicitDefEqProofs [Atb]
end Go.Eng.T
namespace Go.Eng
open Go.Lib
def As9 (c:UInt8):List UInt8->List UInt8->List (List UInt8)
 | [],w=> [w]
 | b::r,w=>if b=c then w::As9 c r []else As9 c r (w++ [b])
theorem index_hit (c:UInt8) (r:List UInt8):index (c::r) [c]=0:=by
 rw[index];simp[List.isPrefixOf]
theorem AIB {b c:UInt8} (h:¬b=c) (r:List UInt8):index (b::r) [c]=if index r [c]== -1 then -1 else index r [c]+1:=by
 rw[index]
 have hp:([c]:List UInt8).isPrefixOf (b::r)=false:=by
  simp only[List.isPrefixOf,Bool.and_true,beq_eq_false_iff_ne,ne_eq]
  exact fun e=>h e.symm
 rw[hp];rfl
theorem ABq (c:UInt8):∀(l w:List UInt8) (k:Nat),l.count c<=k->∃p ps,splitK [c] 0 k l=p::ps/\As9 c l w=(w++p)::ps
 | [],w,k,_=>by
  refine⟨[],[],?_,by simp[As9]⟩
  cases k with
  | zero=>rfl
  | succ k=>unfold splitK;rw[if_pos (by simp[index])]
 | b::r,w,k,hk=>by
  by_cases hb:b=c
  ·subst hb
   rw[List.count_cons_self]at hk
   obtain⟨k',rfl⟩:∃k',k=k'+1:=⟨k-1,by omega⟩
   obtain⟨p,ps,h1,h2⟩:=ABq b r [] k' (by omega)
   refine⟨[],p::ps,?_,?_⟩
   ·unfold splitK
    rw[index_hit,if_neg (by decide)]
    simp[h1]
   ·rw[As9,if_pos rfl,h2];simp
  ·rw[List.count_cons_of_ne (fun e=>hb e)]at hk
   obtain⟨p,ps,h1,h2⟩:=ABq c r (w++ [b]) k hk
   refine⟨b::p,ps,?_,?_⟩
   ·cases k with
    | zero=>unfold splitK at h1⊢;cases h1;rfl
    | succ k=>
     unfold splitK at h1⊢
     rw[AIB hb]
     by_cases hi:index r [c]= -1
     ·rw[if_pos (by simp[hi])]at h1
      rw[hi]
      cases h1
      rfl
     ·rw[if_neg (by simpa using hi)]at h1
      have hge:=index_ge r [c]
      obtain⟨j,hj⟩:∃j:Nat,index r [c]=j:=⟨(index r [c]).toNat,by omega⟩
      have e2:(if(index r [c]== -1)=true then(-1:Int)else index r [c]+1)=((j+1:Nat):Int):=by
       rw[if_neg (by simpa using hi),hj];omega
      rw[e2,if_neg (by simp only[beq_iff_eq];omega)]
      rw[hj]at h1
      simp only[Int.toNat_natCast,Nat.add_zero,List.length_cons,List.length_nil,Nat.zero_add]at h1⊢
      cases h1
      simp
   ·rw[As9,if_neg hb,h2];simp
theorem ADN (l:List UInt8) (c:UInt8):pieces l c=As9 c l []:=by
 obtain⟨p,ps,h1,h2⟩:=ABq c l [] (countB (T.Ww l) (T.Ww [c])) (by
  show _<=count l [c]
  rw[count_one];exact Nat.le_refl _)
 unfold pieces
 rw[splitB_data]
 show splitK [c] 0 _ l=_
 rw[h1,h2];simp
theorem Azq:∀(l w:List UInt8),(As9 32 l w).filter (fun x=> !decide (x=[]))=T.wGo l w
 | [],w=>by
  rw[As9,T.AIW]
  by_cases h:w=[]<;>simp[h]
 | c::r,w=>by
  rw[As9,T.wGo]
  by_cases h:c=32
  ·rw[if_pos h,if_pos h,List.filter_cons]
   have:=Azq r []
   by_cases hw:w=[]<;>simp[hw,this]
  ·rw[if_neg h,if_neg h]
   exact Azq r (w++ [c])
theorem AxE (c:UInt8):∀(l w:List UInt8),(As9 c l w).length<=l.length+1/\As9 c l w≠ []
 | [],w=>by simp[As9]
 | b::r,w=>by
  have h1:=AxE c r []
  have h2:=AxE c r (w++ [b])
  rw[As9]
  split
  ·refine⟨by simp;omega,by simp⟩
  ·refine⟨by simp;omega,h2.2⟩
theorem AJh (l:List UInt8):(pieces l 32).filter (fun w=> !decide (w=[]))=T.Awt l/\(pieces l 32).length<=l.length+1/\pieces l 32≠ []:=by
 rw[ADN]
 exact⟨Azq l [],(AxE 32 l []).1,(AxE 32 l []).2⟩
end Go.Eng
namespace Go.Eng.T
open Go.Lib
set_option maxRecDepth 20000
set_option maxHeartbeats 4000000
variable (R:Rel)
abbrev AMn:Prop:=∀(xs ys:List (List UInt8)),xs.length<=4194304->ys.length<=4194304->R [.sl 1 1 xs.length (strs xs),.sl 1 1 ys.length (strs ys)] [] (B (decide (xs=ys))) []
variable (D:Dn)
theorem AOH:AMn (Body D ALw):=by
 intro xs ys h1 h2
 by_cases hl:xs.length=ys.length
 ·have hl':(xs.length:Int)=ys.length:=by omega
  simp -implicitDefEqProofs [hl']
  refine Ag (fun k s=>∃j,j+k=xs.length/\xs.take j=ys.take j/\s=⟨[.sl 1 1 xs.length (strs xs),.sl 1 1 ys.length (strs ys),.undef,I j,.undef,.undef,.undef],[]⟩) ?_ (xs.length) _ ⟨0,by simp,by simp,by simp⟩
  intro k s ⟨j,hj,hp,hs⟩
  subst hs
  by_cases hjn:j<xs.length
  ·have hw:=Cv (j:=j) (by omega)
   have hy:j<ys.length:=by omega
   by_cases he:xs[j]=ys[j]
   ·simp -implicitDefEqProofs [hjn,hy,he]
    exact⟨k-1,by omega,j+1,by omega,Adh hjn hy hp he,by simp[hw]⟩
   ·have hne:xs≠ys:=fun h=>he (by simp[h])
    simp -implicitDefEqProofs [hjn,hy,he,hne]
  ·obtain rfl:xs=ys:=Agx (by omega) hl hp
   simp -implicitDefEqProofs [hjn]
 ·have hl':¬(xs.length:Int)=ys.length:=by omega
  have:xs≠ys:=fun h=>hl (by rw[h])
  simp -implicitDefEqProofs [hl',this]
def AOi (k:Int):List UInt8:=109::itoa k
abbrev AMg:Prop:=∀k:Int,Py k->0<k->R [I k] [] (Sb (AOi k)) []
theorem AOZ:AMg (Body D ALW):=by
 intro n h hp
 have hlen:=E5 h
 unfold Py at h
 have e0:itoa n=decDigits n.natAbs:=by unfold itoa;rw[if_neg (by omega),show n.natAbs=n.toNat by omega]
 have hmain:(decDigits n.natAbs).length<=20:=by rw[<-e0];exact hlen
 have hp':¬n<=0:=by omega
 simp -implicitDefEqProofs [hp']
 refine Ag (fun k st=>∃(x:Int) (s:List UInt8) (o:O),k=x.natAbs/\x.natAbs<=n.natAbs/\0<=x/\Py x/\(x=0->s=decDigits n.natAbs)/\(x≠0->decDigits n.natAbs=decDigits x.natAbs++s)/\st=⟨[I x,.undef,Sb s,.undef,.undef],[o]⟩) ?_ n.natAbs _ ⟨n,[],.free,rfl,Nat.le_refl _,by omega,h,fun e=>absurd e (by omega),fun _=>by simp,by simp⟩
 intro k st ⟨x,s,o,hk,hxn,hx0',hx,hz,hnz,hs⟩
 subst hs
 unfold Py at hx
 by_cases hx0:x=0
 ·have e:=hz hx0
  subst hx0
  have hb:1+s.length<=1099511627776:=by rw[e];omega
  simp -implicitDefEqProofs [hb,AOi,e0,<-e]
 have e:=hnz hx0
 have hsl:s.length<=20:=by rw[e]at hmain;simp at hmain;omega
 have hd:=AOO x
 have hq:=AOJ x
 have hwq:IntKind.i64.wrap (x.tdiv 10)=x.tdiv 10:=Ad (by omega) (by omega)
 have hlt:x.natAbs % 10<10:=Nat.mod_lt _ (by omega)
 have hs1:∀d:Nat,d<10->IntKind.i64.wrap (48+(d:Int))=48+(d:Int):=fun d hd=>Ad (by omega) (by omega)
 have hs2:∀d:Nat,d<10->IntKind.u8.wrap (48+(d:Int))=48+(d:Int):=fun d hd=>by
  show(if(false&&decide ((48+(d:Int)) % (2 ^ 8:Int)>=(2 ^ 7:Int)))=true then(48+(d:Int)) % (2 ^ 8:Int)-(2 ^ 8:Int)else(48+(d:Int)) % (2 ^ 8:Int))=_
  rw[if_neg (by simp)];omega
 have hb:1+s.length<=1099511627776:=by omega
 have fin:∀s':List UInt8,s' =UInt8.ofNat (48+x.natAbs % 10)::s->((x.tdiv 10).natAbs<x.natAbs/\(x.tdiv 10).natAbs<=n.natAbs/\Py (x.tdiv 10)/\(x.tdiv 10=0->s' =decDigits n.natAbs)/\(x.tdiv 10≠0->decDigits n.natAbs=decDigits (x.tdiv 10).natAbs++s')):=by
  intro s' hs'
  subst hs'
  refine⟨by omega,by omega,by unfold Py;omega,fun h1=> ?_,fun h1=> ?_⟩
  ·have h2:x.natAbs<10:=by omega
   rw[e,decDigits_one h2,Nat.mod_eq_of_lt h2];rfl
  ·have h2:¬x.natAbs<10:=by omega
   rw[e,AjZ h2,hq];simp
 have hnn:0<=x.tmod 10:=Int.tmod_nonneg 10 hx0'
 have hnq:0<=x.tdiv 10:=Int.tdiv_nonneg hx0' (by omega)
 have hd2:x.tmod 10=((x.natAbs % 10:Nat):Int):=by omega
 obtain⟨d,hdd⟩:∃d,d=x.natAbs % 10:=⟨_,rfl⟩
 rw[<-hdd]at hd2 hlt fin
 have hxp:0<x:=by omega
 simp -implicitDefEqProofs [hxp,hd2,hs1 d hlt,hs2 d hlt,hb,hwq,AmL,content,Km,Aex]
 obtain⟨f1,f2,f3,f4,f5⟩:=fin _ rfl
 exact⟨(x.tdiv 10).natAbs,by omega,x.tdiv 10,rfl,f2,hnq,f3,_,f4,f5,rfl,by rw[show(48+(d:Int)).toNat=48+d by omega]⟩
def texts:Nat->Int->List (List UInt8)
 | 0,_=> []
 | n+1,k=>AOi k::texts n (k+1)
@[simp] theorem AOm:∀(n:Nat) (k:Int),(texts n k).length=n
 | 0,_=>rfl
 | n+1,k=>by simp[texts,AOm n]
theorem ANK:∀(n:Nat) (k:Int),texts n k++ [AOi (k+n)]=texts (n+1) k
 | 0,k=>by simp[texts]
 | n+1,k=>by
  have:=ANK n (k+1)
  simp only[texts,List.cons_append]
  rw[show k+((n+1:Nat):Int)=k+1+(n:Int)by omega,this]
  rfl
theorem AOj:∀(n:Nat) (k:Int) (j:Nat) (h:j<(texts n k).length),(texts n k)[j]=AOi (k+j)
 | 0,_,j,h=>by simp at h
 | n+1,k,0,_=>by simp[texts]
 | n+1,k,j+1,h=>by
  have:=AOj n (k+1) j (by simp at h⊢;omega)
  simp only[texts,List.getElem_cons_succ,this]
  congr 1;omega
theorem AOS {xs:List (List UInt8)} {k:Int} {j:Nat} (h:j<xs.length):(texts j k++xs.drop j).set j (AOi (k+j))=texts (j+1) k++xs.drop (j+1):=by
 rw[List.set_append_right _ _ (by simp),AOm,Nat.sub_self,List.drop_eq_getElem_cons h,List.set_cons_zero,<-ANK,List.append_assoc]
 rfl
@[simp] theorem APX (xs:List (List UInt8)) (j:Nat) (l:List UInt8):(strs xs).set j (V.sc (.string (Ww l)))=strs (xs.set j l):=by simp[strs,List.map_set]
abbrev ALV:Prop:=∀(xs:List (List UInt8)) (k:Int),0<k->k+xs.length<=4611686018427387904->R [.arr 0,I k] [.arr 1 0 xs.length (strs xs)] (I (k+xs.length)) [.arr 1 0 xs.length (strs (texts xs.length k))]
theorem AOa (hT:AMg (D 15)):ALV (Body D AIs):=by
 intro xs k hk hl
 simp -implicitDefEqProofs
 refine Ag (fun n s=>∃j,j+n=xs.length/\s=⟨[.arr 0,.sc (.int .i64 (k+j)),.undef,.sc (.int .i64 j),.undef],[.arr 1 0 xs.length (strs (texts j k++xs.drop j))]⟩) ?_ xs.length _ ⟨0,by simp,by simp[texts]⟩
 intro n s ⟨j,hj,hs⟩
 subst hs
 by_cases hjn:j<xs.length
 ·have hw:=Cv (j:=j) (by omega)
  have hw2:IntKind.i64.wrap (k+j+1)=k+(j+1:Nat):=by rw[Ad (by omega) (by omega)];omega
  have hlen:j+(xs.length-j)=xs.length:=by omega
  simp -implicitDefEqProofs [hjn,hlen]
  refine Aa (hT (k+j) (by unfold Py;omega) (by omega)) ?_
  simp -implicitDefEqProofs [hjn,hlen, -List.append_assoc,AOS hjn]
  exact⟨n-1,by omega,j+1,by omega,⟨by simpa using hw2,by simp[hw]⟩,rfl⟩
 ·have hje:j=xs.length:=by omega
  subst hje
  simp -implicitDefEqProofs [Cu]
abbrev ALU:Prop:=∀(n:Nat) (k:Int),0<k->k+n<=4611686018427387904->R [.sl 1 1 n (strs (texts n k)),I k] [] (I (k+n)) []
theorem AOe (hT:AMg (D 15)):ALU (Body D AHU):=by
 intro m k hk hl
 simp -implicitDefEqProofs
 refine Ag (fun n s=>∃j,j+n=m/\s=⟨[.sl 1 1 m (strs (texts m k)),.sc (.int .i64 (k+j)),.undef,.sc (.int .i64 j),.undef,.undef],[]⟩) ?_ m _ ⟨0,by simp,by simp⟩
 intro n s ⟨j,hj,hs⟩
 subst hs
 by_cases hjn:j<m
 ·have hw:=Cv (j:=j) (by omega)
  have hw2:IntKind.i64.wrap (k+j+1)=k+(j+1:Nat):=by rw[Ad (by omega) (by omega)];omega
  simp -implicitDefEqProofs [hjn,AOj]
  refine Aa (hT (k+j) (by unfold Py;omega) (by omega)) ?_
  simp -implicitDefEqProofs
  exact⟨n-1,by omega,j+1,by omega,by simpa using hw2,by simp[hw]⟩
 ·have hje:j=m:=by omega
  subst hje
  simp -implicitDefEqProofs
end Go.Eng.T
namespace Go.Eng.T
set_option maxRecDepth 20000
set_option maxHeartbeats 2000000
def Vh (n:Nat) (w:World):Prop:=∀x,x∈w.log->(0<=x.fin/\x.fin<n)/\∃w0 i,x.dialed=KI w0 i
theorem OY {n:Nat} {w w':World} (h:Vh n w) (e:w'.log=w.log):Vh n w':=by unfold Vh;rw[e];exact h
theorem Ahr {n:Nat} {w:World} {e:Event} (hn:w.ends.length=n) (h:Vh n w):Vh n (AA w e).1:=by
 unfold AA
 by_cases g1:e.kind=1
 ·rw[if_pos g1]
  unfold CR
  split
  ·rename_i hm
   unfold Lu at hm
   simp only[Bool.and_eq_true,decide_eq_true_eq]at hm
   have a1:=hm.1.1
   have a2:=hm.1.2
   intro x hx
   unfold Hu at hx
   dsimp only at hx
   rcases List.mem_append.1 hx with hx | hx
   ·exact h x hx
   ·simp at hx
    subst hx
    exact⟨⟨a1,by dsimp only;omega⟩,w,e.n,rfl⟩
  ·exact h
 rw[if_neg g1]
 split
 ·unfold Dc
  split
  ·exact OY h (RS w)
  ·exact h
 split
 ·unfold BS
  split
  ·exact h
  split
  ·split
   ·exact OY h (by rw[RS];rfl)
   ·exact h
  split
  ·split
   ·exact OY h rfl
   ·exact h
  ·exact h
 split
 ·unfold Br;split<;>exact h
 split
 ·exact h
 split
 ·unfold Fg
  split
  ·split
   ·split<;>exact h
   ·exact h
  ·exact h
 split
 ·unfold DX
  split
  ·split
   ·split
    ·exact h
    ·exact OY h (by unfold Ob;split<;>rfl)
   ·exact h
  ·exact h
 split
 ·unfold ED;split<;>exact h
 ·exact h
set_option maxHeartbeats 2000000
theorem AI2 (w:World) (e:Event):Af (AA w e).1<=Af w+w.ends.length+3001+Hy e:=by
 have h1:=AkM w e
 have h2:=AnN (AA w e).1
 have h3:=Am5 w
 omega
set_option maxHeartbeats 2000000
theorem Ec {x:Int} (h:-1000<=x/\x<=1000):Py x:=by unfold Py;omega
structure Ah8 (r:AX):Prop where
 len:r.stages.length<=3
 ver:Py r.version
 st:DK r.stages
 pos:Py r.pos
structure Ana (e:Ai):Prop where
 sm:ArD e
 vers:DK e.versions
 tags:DK e.tags
set_option maxHeartbeats 2000000
structure Al4 (d:BP):Prop where
 ver:Py d.deal.version
 tags:DK d.deal.tags
 tries:Py d.tries
 up:DK d.up
theorem Aob (h seen:Hello) (vs tags:List Int) (key:Int):Py (O1 h seen vs tags key).version/\DK (O1 h seen vs tags key).tags:=by
 unfold O1
 split
 ·rename_i hc
  simp only[Bool.and_eq_true]at hc
  have hf:=hc.2.1
  unfold Fu Kr at hf
  simp only[Bool.and_eq_true,decide_eq_true_eq]at hf
  obtain⟨_,⟨hv,he⟩,_⟩:=hf
  refine⟨Ec (by unfold InV at hv;dsimp only;omega),fun t ht=> ?_⟩
  obtain⟨x,hx,rfl⟩:=List.mem_map.1 ht
  have:=(AlW.1 he).1.1 x hx
  unfold SY at this
  simp only[Bool.and_eq_true,decide_eq_true_eq]at this
  exact Ec (by have:=this.1;unfold M6 at this;omega)
 ·exact⟨Ec (by unfold E9;dsimp only;omega),fun t ht=>by cases ht⟩
theorem AoK (h:Hello) (path:List EG) (vs tags:List Int) (key:Int):Py (Hl h path vs tags key).version/\DK (Hl h path vs tags key).tags:=by
 unfold Hl
 split
 ·exact Aob _ _ _ _ _
 ·exact⟨Ec (by unfold E9;dsimp only;omega),fun t ht=>by cases ht⟩
theorem Ah6 (h:Hello) (path:List EG):0<=(Bg h path).2.1/\(Bg h path).2.1<=2/\((Bg h path).2.2=true->Dt h=true):=by
 unfold Bg
 split
 ·rename_i hh
  split
  ·exact⟨by dsimp only;omega,by dsimp only;omega,fun _=>hh⟩
  ·split
   ·exact⟨by dsimp only;omega,by dsimp only;omega,fun _=>hh⟩
   ·exact⟨by dsimp only;omega,by dsimp only;omega,fun h=>by cases h⟩
 ·exact⟨by dsimp only;omega,by dsimp only;omega,fun h=>by cases h⟩
theorem Ami {h x:Hello} (hh:Dt h=true):DK (JN h x):=by
 intro t ht
 unfold JN at ht
 rcases List.mem_append.1 ht with ht | ht
 ·have:=RF (Adj hh) t ((Ank _ _).subset ht)
  exact Ec (by unfold InV at this;omega)
 ·obtain⟨y,hy,rfl⟩:=List.mem_map.1 ht
  have:=(List.mem_filter.1 hy).2
  unfold Abb inB at this
  simp only[Bool.and_eq_true,decide_eq_true_eq]at this
  have:=this.2
  unfold Py
  unfold M6 at this
  omega
theorem Apg (h:Hello) (path:List EG) (vs tags:List Int) (key:Int):Al4 (Xh h path vs tags key):=by
 have h1:=AoK (Bg h path).1 path vs tags key
 have h2:=Ah6 h path
 unfold Xh
 split
 ·rename_i hc
  exact⟨h1.1,h1.2,Ec (by dsimp only;omega),Ami (h2.2.2 hc)⟩
 ·exact⟨Ec (by unfold E9;dsimp only;omega),(fun t ht=>by cases ht),Ec (by dsimp only;omega),(fun t ht=>by cases ht)⟩
set_option maxRecDepth 100000
set_option maxHeartbeats 4000000
def enN (l:List Nat):List Nat:=l.flatMap fun t=> [t,0]
set_option maxRecDepth 100000
set_option maxHeartbeats 4000000
def hbN (vs A g B:List Nat) (k:Nat):List Nat:=vs.length::(vs++k::(enN A++(g++enN B)))
def Like (a b:Nat):Prop:=a % 2147483647=b % 2147483647
theorem Like.add {a b c d:Nat} (h:Like a b) (h':Like c d):Like (a+c) (b+d):=by
 unfold Like at *
 rw[Nat.add_mod,h,h',<-Nat.add_mod]
theorem Like.mul {a b c d:Nat} (h:Like a b) (h':Like c d):Like (a*c) (b*d):=by
 unfold Like at *
 rw[Nat.mul_mod,h,h',<-Nat.mul_mod]
theorem Like.trans {a b c:Nat} (h:Like a b) (h':Like b c):Like a c:=Eq.trans h h'
theorem Like.symm {a b:Nat} (h:Like a b):Like b a:=Eq.symm h
set_option maxRecDepth 100000
set_option maxHeartbeats 4000000
def VIn (b:Int) (l:List Int):Prop:=Up l/\∃a,(a=2∨a=3)/\∀x,x∈l->x=1∨x=a∨x=b
theorem AIA {e:Ai} (h:Au e=true):AQ e.versions=true/\FI e.tags=true/\e.tags.any BH=false/\e.path.length<=4/\∀b,b∈e.path->IL b=true:=by
 unfold Au at h
 simp only[Bool.and_eq_true,decide_eq_true_eq,Bool.not_eq_true',List.all_eq_true]at h
 exact⟨h.1,h.2.2.1,h.2.2.2.1,h.2.2.2.2.1,h.2.2.2.2.2.1⟩
structure ALX (b:Int) (e:Ai):Prop where
 ok:Au e=true
 vers:VIn b e.versions
 tags:AjF e.tags 3
open Go.Lib
set_option maxHeartbeats 2000000
def zeroAt (t:Int):World:={Wl with now:=t}
structure CI (w:World) (k:Nat):Prop where
 wd:Ap w=true∨∃t,0<=t/\t<=10000/\w=zeroAt t
 log:Vh w.ends.length w
 sz:Af w<=300+20000*k
theorem Atk {x:Int} (h:-100000<=x/\x<=100000):Py x:=by unfold Py;omega
theorem ADL {l:List Int} (h:AQ l=true):DK l:=fun x hx=>by
 have:=RF h x hx
 unfold InV at this
 exact Atk (by omega)
theorem AJX {l:List Int} (h:allIn l 0 255=true):DK l:=fun x hx=>by
 unfold allIn at h
 have:=List.all_eq_true.1 h x hx
 simp only[decide_eq_true_eq]at this
 unfold M6 at this
 exact Atk (by omega)
theorem AI8 (w:World) (i:Int):AyE (KI w i):=by
 have z:AyE Md:=⟨⟨Atk (by decide),fun x hx=>by cases hx⟩,Atk (by decide),fun x hx=>by cases hx⟩
 unfold KI
 split
 ·split
  ·unfold MO
   split
   ·have h:=Apg (Ho ‹Ai› (16*clip w.now+i)) (Ai.path ‹_›) w.server w.tags w.key
    exact⟨⟨h.ver,h.tags⟩,h.tries,h.up⟩
   ·exact z
  ·exact z
 ·exact z
theorem AF6 {w:World} {k:Nat} (h:CI w k) (hk:k<=100):Art w/\Af w<=4190000:=by
 have hs:=h.sz
 have hlog:∀l,l∈w.log->Py l.fin/\AyE l.dialed:=by
  intro l hl
  obtain⟨⟨a,b⟩,w0,i,e⟩:=h.log l hl
  have hel:=FE (w:=w) (by omega)
  refine⟨by unfold Py;omega,?_⟩
  rw[e];exact AI8 w0 i
 refine⟨?_,by omega⟩
 rcases h.wd with hw | ⟨t,h1,h2,rfl⟩
 ·have p:=BU.1 hw
  have hb:=p.b
  have hc:=p.c
  unfold FM at hb
  unfold Es at hc
  simp only[Bool.and_eq_true,decide_eq_true_eq]at hb hc
  have hr:=Abf hb.1
  have hr2:=hb.1
  unfold AP at hr2
  simp only[Bool.and_eq_true,decide_eq_true_eq]at hr2
  refine⟨by omega,ADL p.reach.1,⟨?_,?_,?_⟩,⟨?_,?_⟩,?_,hlog⟩
  ·have:=hr2.2.1.1.1
   unfold NJ at this
   exact Atk (by omega)
  ·intro x hx
   obtain⟨i,hi,rfl⟩:=List.mem_iff_getElem.1 hx
   have:=AfY hr2.1 hi
   rw[getD_at hi]at this
   unfold NJ at this
   exact Atk (by omega)
  ·exact Atk (by omega)
  ·have:=hc.2.2.1
   unfold M6 at this
   exact Atk (by omega)
  ·have h3:=hc.2.2.2.1
   have h4:=hc.2.1
   unfold M6 at h3
   exact Atk (by omega)
  ·intro e he
   have hp:=AIA (p.ends e he)
   refine⟨ADL hp.1,?_⟩
   have h2:=hp.2.1
   unfold FI at h2
   simp only[Bool.and_eq_true]at h2
   exact AJX h2.2
 ·have nil:DK []:=fun x hx=>by cases hx
  have z:Py 0:=Atk (by decide)
  exact⟨by omega,nil,⟨z,nil,z⟩,⟨Atk (show -100000<=t/\t<=100000 by omega),z⟩,fun e he=>(by cases he),hlog⟩
theorem AFe {t:Int}:AQ (zeroAt t).server=false:=by
 show AQ []=false
 by_cases h:AQ []=true
 ·have:=ZT h;simp at this
 ·simpa using h
theorem AF0 {t:Int} (h0:0<=t) (h1:t<=10000) (e:Event):∃t',0<=t'/\t'<=10000/\(AA (zeroAt t) e).1=zeroAt t':=by
 unfold AA
 split
 ·refine⟨t,h0,h1,?_⟩
  unfold CR
  rw[if_neg]
  unfold Lu
  simp only[Bool.and_eq_true,decide_eq_true_eq]
  rintro ⟨h,_⟩
  unfold NJ at h
  have:(zeroAt t).ends.length=0:=rfl
  omega
 split
 ·refine⟨t,h0,h1,?_⟩
  unfold Dc
  rw[if_neg]
  simp only[Bool.and_eq_true,decide_eq_true_eq]
  rintro ⟨_,h⟩
  unfold Hg at h
  have:AP (zeroAt t).rollout=false:=by
   show AP ⟨0,[],0,false⟩=false
   decide
  rw[this]at h
  cases h
 split
 ·refine⟨t,h0,h1,?_⟩
  unfold BS
  rw[if_pos (show(zeroAt t).reached=0 from rfl)]
 split
 ·refine⟨t,h0,h1,?_⟩
  unfold Br
  rw[if_neg]
  rintro ⟨h,_⟩
  unfold GN at h
  split at h
  ·rename_i hm
   unfold FP at hm
   rw[AFe]at hm
   cases hm
  ·cases h
 split
 ·refine⟨t,h0,h1,?_⟩
  unfold EC
  have:KT (zeroAt t).server e.n=([],false):=by
   unfold KT
   rw[if_neg]
   ·rfl
   ·unfold Tn
    rw[AFe]
    simp
  rw[this];rfl
 split
 ·refine⟨t,h0,h1,?_⟩
  unfold Fg
  split
  ·rfl
  ·rfl
 split
 ·refine⟨t,h0,h1,?_⟩
  unfold DX
  split
  ·rfl
  ·rfl
 split
 ·unfold ED
  split
  ·rename_i h
   obtain⟨a,b⟩:=h
   have e1:(zeroAt t).now=t:=rfl
   rw[e1]at b
   unfold NJ at a b
   exact⟨t+e.n,by omega,by omega,rfl⟩
  ·exact⟨t,h0,h1,rfl⟩
 ·exact⟨t,h0,h1,rfl⟩
theorem AHp {w:World} {k:Nat} (h:CI w k) (e:Event) (he:Hy e<=1):Af (AA w e).1<=Af w+3010/\(∀k',Af (AA w e).1<=300+20000*k'->CI (AA w e).1 k'):=by
 have hl:=(AlP w e).2.2
 have hs:=AI2 w e
 have h6:w.ends.length<=6:=by
  rcases h.wd with hw | ⟨t,_,_,rfl⟩
  ·exact(BU.1 hw).few
  ·exact Nat.zero_le _
 refine⟨by omega,fun k' hk=>⟨?_,?_,hk⟩⟩
 ·rcases h.wd with hw | ⟨t,h1,h2,rfl⟩
  ·exact .inl (Aho hw)
  ·obtain⟨t',a,b,c⟩:=AF0 h1 h2 e
   exact .inr ⟨t',a,b,c⟩
 ·rw[hl]
  exact Ahr rfl h.log
theorem AJ8 {w:World} {k:Nat} (h:CI w k):∀n,n<=6->Af (Apu w n)<=Af w+3010*n/\(∀k',Af (Apu w n)<=300+20000*k'->CI (Apu w n) k')
 | 0,_=>⟨by show Af w<=_;omega,fun k' hk=>⟨h.wd,h.log,hk⟩⟩
 | n+1,hn=>by
  have ih:=AJ8 h n (by omega)
  have e:(CR (Apu w n) n).1=(AA (Apu w n) ⟨1,n,AsO⟩).1:=rfl
  have hc:=ih.2 (Af (Apu w n)) (by omega)
  have ha:=AHp hc ⟨1,n,AsO⟩ (by simp[Hy,Gm,AsO])
  show Af (CR (Apu w n) n).1<=_/\∀k',Af (CR (Apu w n) n).1<=_->CI (CR (Apu w n) n).1 k'
  rw[e]
  exact⟨by omega,ha.2⟩
theorem AIK:CI Wl 0:=by
 refine⟨.inr ⟨0,by omega,by omega,rfl⟩,fun x hx=>(by cases hx),?_⟩
 simp[Af,Wl,Cr,Db]
theorem AIL {w:World} {k k':Nat} (h:CI w k) (hk:k<=k'):CI w k':=⟨h.wd,h.log,by have:=h.sz;omega⟩
theorem AIE {w:World} {k:Nat} (h:CI w k) (l:List UInt8):CI (AsN w l).1 (k+1):=by
 have hw:=AIL h (Nat.le_succ k)
 have hs:=h.sz
 have h6:w.ends.length<=6:=by
  rcases h.wd with hw | ⟨t,_,_,rfl⟩
  ·exact(BU.1 hw).few
  ·exact Nat.zero_le _
 unfold AsN
 split
 ·exact hw
 rename_i hll
 have hwo:=AHa l
 split
 ·exact hw
 ·rename_i word r hws
  rw[hws]at hwo
  have hlr:=hwo.1
  simp only[List.length_cons]at hlr
  split
  ·unfold Ax7
   split
   ·rename_i hcond
    split
    ·rename_i hok
     generalize hn:(numsOf r).getD 0 0=n at hok⊢
     have hst:(numsOf r).tail.length<=200:=by rw[List.length_tail,ADn];omega
     generalize(numsOf r).tail=st at hok hst⊢
     have hz:=AGg n st
     have hlw:Ap (AnV n st).1=true/\(AnV n st).1.log=[]:=by
      unfold AnV at hok⊢
      split at hok
      ·rename_i hin
       rw[if_pos hin]
       unfold JV at hok⊢
       split at hok
       ·rename_i hwd
        rw[if_pos hwd]
        exact⟨hwd,rfl⟩
       ·cases hok
      ·cases hok
     refine⟨.inl hlw.1,?_,by show Af (AnV n st).1<=_;omega⟩
     intro x hx
     have hx:x∈(AnV n st).1.log:=hx
     rw[hlw.2]at hx
     cases hx
    ·exact hw
   split
   ·have:=AJ8 h w.ends.length h6
    exact this.2 (k+1) (by omega)
   split
   ·have he:=AGF word (numsOf r)
    have:=AHp h (Ark word (numsOf r)) he
    exact this.2 (k+1) (by omega)
   split
   ·exact hw
   split
   ·exact hw
   ·exact hw
  ·exact hw
end Go.Eng.T
