/- Own work: part 49 of the proof of FnEvents. -/
import Derived.Test.YtfdnolfnbmnafaaGreatEngAQ
set_option linter.unusedSimpArgs false
set_option linter.unusedVariables false
namespace Go.Eng
open Go.ChangeShapes Go.WideShapes Go.RowKit
def AUn (W:World):Gl:=⟨fun b=>b<W.heap.size,fun b=>W.heap[b]?⟩
def AS7 (as:List V):Prop:=∃c,Dat (.sl (.int .u8)) [c]∧as=[Be 3 c]
section
variable {H:Type} {enc:TypeId×Value→H} {P:Program} {W w':World} {base:Nat} {Ah:Nat→Option FuncId}
theorem AVm {β:Nat→Base} {own:Nat→Option (Nat×List Nat)} {Hh:Hp} {ts:List TypeId} {vs:List Value} {ds:List (DataW H)} {p:List MemPlace} (hy:Ahv P [.sl (.int .u8)] ts=true)
 (hval:∀(j:Nat) t v,ts[j]? =some t→vs[j]? =some v→Value.okWide P W .any base t v) (h:DataW.TrodAll enc P W 0 (fun _=>true) true ts vs ds p):
 ∃as,AS7 as∧Pw (VR (Abk Ah (AUn W) W) β own Hh W) as vs:=by
 cases ts with
 | nil=>simp[Ahv]at hy
 | cons t ts=>
  simp only[Ahv,Bool.and_eq_true]at hy
  obtain⟨hy1,hy2⟩:=hy
  cases ts with
  | cons _ _=>simp[Ahv]at hy2
  | nil=>
   obtain⟨v,vs',d,ds',p,q,rfl,rfl,rfl,h1,h2⟩:=trodAll_cons h
   obtain⟨rfl,_,_⟩:=trodAll_nil h2
   have hv:=hval 0 t v rfl rfl
   obtain⟨fuel,hf⟩:=h1
   obtain⟨xs,g1,g2,g3⟩:=AvI (Ah:=Ah) (.sl (.int .u8)) t fuel _ _ hy1 hf
   have hu:∃e,P.underlying t=some (.slice e):=by
    simp only[tyB]at hy1
    split at hy1
    ·exact⟨_,‹_›⟩
    ·cases hy1
   obtain⟨e,hu⟩:=hu
   obtain⟨a,l,c,rfl⟩:=okWide_slice hu hv
   have hc:(Value.slice a l c).cells.toList=[.slice a l c]:=rfl
   rw[hc]at g2
   have hl:xs.length=1:=YT g1
   obtain⟨cc,rfl⟩:=List.length_eq_one_iff.1 hl
   refine⟨[Be 3 cc],⟨cc,g1,rfl⟩,Ajk ?_⟩
   have hr:=g2.2 0 cc _ rfl rfl
   have hd:=ACZ g1 cc (by simp)
   cases cc with
   | sc v=>cases hr with | sc h1=>exact .sc h1
   | sl fl e len cells=>
    refine .rd (by omega) ?_
    have:=hr.flag (fl:=3)
    exact Rd.move this (fun b hb=>hb) (fun _ _=>rfl)
   | _=>exact absurd hd (by simp[DC])
theorem ATO {f:FuncId} {fn:Func} {s:ChangeSpec} {apart fresh handsOn:Bool} {g:Nat} {ys:List Ty} {tb:TypeId} {args:Array Value} {ds gs:List (DataW H)} {before:List MemPlace}
 (hg:Ah g=some f) (hy1:ys=[.sl (.int .u8)]) (hden:∀(G:Gl) as,AS7 as→Den P Ah G g as [] (.sc (.bool true)) [])
 (hys:Ahv P ys fn.params.toList=true) (hrt:fn.resultTypes= #[tb]) (htb:P.underlying tb=some .bool)
 (hvars:s.vars=[]) (hs:∀ds:List (DataW H),ds.length=ys.length→s.fn H ds={results:=[.lit (.bool true)],args:=ds})
 (hval:∀(j:Nat) t v,fn.params[j]? =some t→args[j]? =some v→Value.okWide P W .any base t v)
 (hW:DataW.Whole enc P fn.params.toList s.vars apart W args.toList ds gs before):
 Calls P f args W fun e W'=>∃v,e= .returned v∧s.post enc P fn apart fresh handsOn false W args v W':=by
 have hG:∀b,(AUn W) b→b<W.heap.size∧W.heap[b]? =(AUn W).is b:=fun b h=>⟨h,rfl⟩
 have hW':=hW
 obtain⟨p,q,hA,hV,rfl,_,_⟩:=hW
 rw[hvars]at hV
 obtain⟨rfl,rfl⟩:=trodVars_none hV
 obtain⟨as,hvs,hr⟩:∃as,AS7 as∧Pw (VR (Abk Ah (AUn W) W) (Abk Ah (AUn W) W).β0 (Abk Ah (AUn W) W).own0 (hp []) W) as args.toList:=by
  subst hy1
  exact AVm hys (fun j t v ht hv=>hval j t v (by simpa using ht) (by simpa using hv)) hA
 have call:=hden (AUn W) as hvs f hg (Abk Ah (AUn W) W) rfl rfl rfl rfl rfl (ALp hG) args.toList hr
 have e:args.toList.toArray=args:=by simp
 rw[e]at call
 refine call.mono fun r W' hq=> ?_
 cases r with
 | returned x=>
  obtain⟨own',po⟩:=hq
  have hx:x= .bool true:=by
   have:=po.res
   cases this with
   | sc h1=>rfl
  subst hx
  have hw:∀b,b<W.heap.size→W'.heap[b]? =W.heap[b]? :=fun b hb=>po.keep b hb rfl
  have hlen:(ds:List (DataW H)).length=ys.length:=by
   have:∀ {ys:List Ty} {ts:List TypeId} {vs:List Value} {ds:List (DataW H)} {p:List MemPlace},Ahv P ys ts=true→DataW.TrodAll enc P W 0 (fun _=>true) true ts vs ds p→ds.length=ys.length:=by
    intro ys
    induction ys with
    | nil=>
     intro ts vs ds p hy h
     cases ts with
     | nil=>obtain⟨rfl,rfl,rfl⟩:=trodAll_nil h;rfl
     | cons=>simp[Ahv]at hy
    | cons y ys ih=>
     intro ts vs ds p hy h
     cases ts with
     | nil=>simp[Ahv]at hy
     | cons t ts=>
      simp only[Ahv,Bool.and_eq_true]at hy
      obtain⟨v,vs',d,ds',p,q,rfl,rfl,rfl,h1,h2⟩:=trodAll_cons h
      simp[ih hy.2 h2]
   exact this hys hA
  refine⟨_,rfl,ds,[],_,[],p,[],hW',?_,?_,?_,?_,?_⟩
  ·rw[List.append_nil,hs ds hlen,hrt]
   exact trodAll_cons_mk (shut_bool htb true) trodAll_mk0
  ·rw[List.append_nil,hs ds hlen]
   refine Aue hw hys hA fun m hm=> ?_
   have:=hW'.lt m (by simp[hm])
   simpa using this
  ·rw[hvars,List.append_nil,hs ds hlen];exact rfl
  ·refine⟨po.os,po.output,fun i hi=> ?_⟩
   rw[hw i hi]
   have hz:∃o,W.heap[i]? =some o:=⟨_,Array.getElem?_eq_getElem hi⟩
   obtain⟨o,ho⟩:=hz
   rw[ho]
   cases o with
   | cells c t fr=>exact⟨rfl,rfl,rfl,fun _ _=>rfl⟩
   | map es cl=>exact .inr ⟨rfl,rfl⟩
   | _=>rfl
  ·intro h;cases h
 | _=>exact hq.elim
end
end Go.Eng
