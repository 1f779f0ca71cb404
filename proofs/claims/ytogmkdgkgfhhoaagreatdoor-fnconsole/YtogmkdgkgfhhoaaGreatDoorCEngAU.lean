/- Own work: part 23 of the proof of FnConsole. -/
import Derived.Test.YtogmkdgkgfhhoaaGreatDoorCEngAQ
set_option linter.unusedSimpArgs false
set_option linter.unusedVariables false
namespace Go.Eng
open Go.ChangeShapes Go.WideShapes Go.RowKit
section
variable {H:Type} {enc:TypeId×Value->H} {P:Program} {W w':World} {base:Nat} {Ae:Nat->Option FuncId}
theorem Acr {f:FuncId} {fn:Func} {s:ChangeSpec} {apart fresh handsOn:Bool} {g:Nat} {ys:List Ty} {tb:TypeId} {args:Array Value} {ds gs:List (DataW H)} {before:List MemPlace}
 (hg:Ae g=some f) (hy1:ys=[.sl (.int .u8)]) (hden:∀as,AbC as->Den P Ae (AeK W) g as [] (.sc (.bool true)) [])
 (hys:Vd P ys fn.params.toList=true) (hrt:fn.resultTypes= #[tb]) (htb:P.underlying tb=some .bool)
 (hvars:s.vars=[]) (hs:∀ds:List (DataW H),ds.length=ys.length->s.fn H ds={results:=[.lit (.bool true)],args:=ds})
 (hval:∀(j:Nat) t v,fn.params[j]? =some t->args[j]? =some v->Value.okWide P W .any base t v)
 (hW:DataW.Whole enc P fn.params.toList s.vars apart W args.toList ds gs before):
 Calls P f args W fun e W'=>∃v,e= .returned v/\s.post enc P fn apart fresh handsOn false W args v W':=by
 have hG:∀b,(AeK W) b->b<W.heap.size/\W.heap[b]? =(AeK W).is b:=fun b h=>⟨h,rfl⟩
 have hW':=hW
 obtain⟨p,q,hA,hV,rfl,_,_⟩:=hW
 rw[hvars]at hV
 obtain⟨rfl,rfl⟩:=trodVars_none hV
 obtain⟨as,hvs,hr⟩:∃as,AbC as/\Pw (VR (VB Ae (AeK W) W) (VB Ae (AeK W) W).β0 (VB Ae (AeK W) W).own0 (hp []) W) as args.toList:=by
  subst hy1
  exact Alq hys (fun j t v ht hv=>hval j t v (by simpa using ht) (by simpa using hv)) hA
 have call:=hden as hvs f hg (VB Ae (AeK W) W) rfl rfl rfl rfl rfl (AoG hG) args.toList hr
 have e:args.toList.toArray=args:=by simp
 rw[e]at call
 refine call.mono fun r W' hq=> ?_
 cases r with
 | returned x=>
  obtain⟨own',po⟩:=hq
  have hx:x= .bool true:=by
   have:=po.res
   cases this with
   | sc h1=>rfl
  subst hx
  have hw:∀b,b<W.heap.size->W'.heap[b]? =W.heap[b]? :=fun b hb=>po.keep b hb rfl
  have hlen:(ds:List (DataW H)).length=ys.length:=by
   have:∀ {ys:List Ty} {ts:List TypeId} {vs:List Value} {ds:List (DataW H)} {p:List MemPlace},Vd P ys ts=true->DataW.TrodAll enc P W 0 (fun _=>true) true ts vs ds p->ds.length=ys.length:=by
    intro ys
    induction ys with
    | nil=>
     intro ts vs ds p hy h
     cases ts with
     | nil=>obtain⟨rfl,rfl,rfl⟩:=trodAll_nil h;rfl
     | cons=>simp[Vd]at hy
    | cons y ys ih=>
     intro ts vs ds p hy h
     cases ts with
     | nil=>simp[Vd]at hy
     | cons t ts=>
      simp only[Vd,Bool.and_eq_true]at hy
      obtain⟨v,vs',d,ds',p,q,rfl,rfl,rfl,h1,h2⟩:=trodAll_cons h
      simp[ih hy.2 h2]
   exact this hys hA
  refine⟨_,rfl,ds,[],_,[],p,[],hW',?_,?_,?_,?_,?_⟩
  ·rw[List.append_nil,hs ds hlen,hrt]
   exact trodAll_cons_mk (shut_bool htb true) trodAll_mk0
  ·rw[List.append_nil,hs ds hlen]
   refine AdO hw hys hA fun m hm=> ?_
   have:=hW'.lt m (by simp[hm])
   simpa using this
  ·rw[hvars,List.append_nil,hs ds hlen];exact rfl
  ·refine⟨po.os,po.output,fun i hi=> ?_⟩
   rw[hw i hi]
   have hz:∃o,W.heap[i]? =some o:=⟨_,Array.getElem?_eq_getElem hi⟩
   obtain⟨o,ho⟩:=hz
   rw[ho]
   cases o with
   | cells c t fr=>exact⟨rfl,rfl,rfl,fun _ _=>rfl⟩
   | map es cl=>exact .inr ⟨rfl,rfl⟩
   | _=>rfl
  ·intro h;cases h
 | _=>exact hq.elim
end
end Go.Eng
