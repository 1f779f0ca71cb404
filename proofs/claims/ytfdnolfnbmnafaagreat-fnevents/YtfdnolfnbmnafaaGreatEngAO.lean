/- Own work: part 41 of the proof of FnEvents. -/
import Derived.Test.YtfdnolfnbmnafaaGreatEngAN
import Derived.OpenShut
set_option linter.unusedSimpArgs false
set_option linter.unusedVariables false
namespace Go.Eng
open Go.ChangeShapes Go.WideShapes Go.RowKit
def AEA:Ty→V→Prop
 | .st ts,v=>∃cs,Dat (.st ts) cs∧v= .agg (cs.map (Be 1))
 | y,v=>∃c,Dat y [c]∧v=Be 1 c
def ADx:List Ty→List V→Prop
 | [],vs=>vs=[]
 | y::ys,vs=>∃v r,AEA y v∧ADx ys r∧vs=v::r
def Ahv (P:Program):List Ty→List TypeId→Bool
 | [],[]=>true
 | y::ys,t::ts=>tyB P y t&&Ahv P ys ts
 | _,_=>false
def DC:V→Prop
 | .sc _=>True
 | .sl _ _ _ _=>True
 | _=>False
mutual
theorem ACZ:∀ {y:Ty} {cs:List V},Dat y cs→∀c,c∈cs→DC c
 | .bool,_,h=>by simp only[Dat]at h;obtain⟨b,rfl⟩:=h;intro c hc;simp at hc;subst hc;trivial
 | .int k,_,h=>by simp only[Dat]at h;obtain⟨b,_,rfl⟩:=h;intro c hc;simp at hc;subst hc;trivial
 | .str,_,h=>by simp only[Dat]at h;obtain⟨b,_,rfl⟩:=h;intro c hc;simp at hc;subst hc;trivial
 | .sl y,_,h=>by simp only[Dat]at h;obtain⟨b,_,_,rfl⟩:=h;intro c hc;simp at hc;subst hc;trivial
 | .st ts,cs,h=>by simp only[Dat]at h;exact ADs h
theorem ADs:∀ {ys:List Ty} {cs:List V},Aad ys cs→∀c,c∈cs→DC c
 | [],_,h=>by simp only[Aad]at h;subst h;intro c hc;simp at hc
 | y::ys,_,h=>by
  simp only[Aad]at h;obtain⟨a,b,h1,h2,rfl⟩:=h
  intro c hc
  rcases List.mem_append.1 hc with hc | hc
  ·exact ACZ h1 c hc
  ·exact ADs h2 c hc
end
def Abk (Ah:Nat→Option FuncId) (G:Gl) (W:World):Fr:=
 {Ah:=Ah,w0:=W,own0:=fun _=>none,β0:=fun _=>⟨none,0⟩,ngiven:=0,G:=G,bor:=false,takes:=[]}
section
variable {H:Type} {enc:TypeId×Value→H} {P:Program} {W w':World} {base:Nat} {Ah:Nat→Option FuncId} {G:Gl}
theorem ALp (hG:∀b,G b→b<W.heap.size∧W.heap[b]? =G.is b):Inv (Abk Ah G W) (Abk Ah G W).β0 (Abk Ah G W).own0 (hp []) (Abk Ah G W).w0 where
 size:=Nat.le_refl _
 keep:=fun _ _ _=>rfl
 os:=rfl
 tape:=rfl
 output:=rfl
 ownb:=fun b p h=>by cases h
 glob:=fun b h=>⟨(hG b h).1,rfl,(hG b h).2⟩
 objs:=fun k=>by simp[hp,OR]
 given:=fun k h=>absurd h (Nat.not_lt_zero _)
 gfree:=fun k h=>absurd h (Nat.not_lt_zero _)
theorem Azn {β:Nat→Base} {own:Nat→Option (Nat×List Nat)} {Hh:Hp} {c:V} {x:Value} (hd:DC c) (h:Rd Ah W (· <W.heap.size) c x):VR (Abk Ah G W) β own Hh W (Be 1 c) x:=by
 cases c with
 | sc v=>cases h with | sc h1=>exact .sc h1
 | sl fl e len cells=>
  refine .rd (Nat.le_refl 1) ?_
  have:=h.flag (fl:=1)
  exact Rd.move this (fun b hb=>⟨hb,rfl⟩) (fun _ _=>rfl)
 | _=>exact absurd hd (by simp[DC])
theorem ALf {β:Nat→Base} {own:Nat→Option (Nat×List Nat)} {Hh:Hp} {y:Ty} {t:TypeId} {v:Value} {d:DataW H} {p:List MemPlace} (hy:tyB P y t=true)
 (hval:Value.okWide P W .any base t v) (h:DataW.Trod enc P W 0 (fun _=>true) true t v d p):∃a,AEA y a∧VR (Abk Ah G W) β own Hh W a v:=by
 obtain⟨fuel,hf⟩:=h
 obtain⟨vs,h1,h2,h3⟩:=AvI (Ah:=Ah) y t fuel _ _ hy hf
 have one:∀u:Value,u.cells.toList=[u]→v=u→(∀cs,Dat y cs→cs.length=1)→(∀a,AEA y a= ∃c,Dat y [c]∧a=Be 1 c)→∃a,AEA y a∧VR (Abk Ah G W) β own Hh W a v:=by
  intro u hu hv hl hA
  subst hv
  rw[hu]at h2
  have hl':=hl vs h1
  obtain⟨c,rfl⟩:=List.length_eq_one_iff.1 hl'
  refine⟨Be 1 c,by rw[hA];exact⟨c,h1,rfl⟩,Azn (ACZ h1 c (by simp)) (h2.2 0 c _ rfl rfl)⟩
 cases y with
 | bool=>
  simp only[tyB]at hy
  split at hy
  ·rename_i hu
   obtain⟨b,rfl⟩:=okWide_bool hu hval
   exact one _ rfl rfl (fun cs h=>YT h) (fun a=>rfl)
  ·cases hy
 | int k=>
  simp only[tyB]at hy
  split at hy
  ·rename_i hu
   obtain⟨b,rfl⟩:=okWide_int hu hval
   exact one _ rfl rfl (fun cs h=>YT h) (fun a=>rfl)
  ·cases hy
 | str=>
  simp only[tyB]at hy
  split at hy
  ·rename_i hu
   obtain⟨b,rfl⟩:=okWide_string hu hval
   exact one _ rfl rfl (fun cs h=>YT h) (fun a=>rfl)
  ·cases hy
 | sl y=>
  simp only[tyB]at hy
  split at hy
  ·rename_i hu
   obtain⟨a,l,c,rfl⟩:=okWide_slice hu hval
   exact one _ rfl rfl (fun cs h=>YT h) (fun a=>rfl)
  ·cases hy
 | st ts=>
  simp only[tyB]at hy
  split at hy
  ·rename_i hu
   obtain⟨cs,rfl,_⟩:=okWide_struct hu hval
   refine⟨.agg (vs.map (Be 1)),⟨vs,h1,rfl⟩,?_⟩
   have e:cs=cs.toList.toArray:=by simp
   rw[e]
   have hc:(Value.agg cs).cells.toList=cs.toList:=rfl
   rw[hc]at h2 h3
   refine .agg h3 (by rw[h2.1];simp) ?_
   intro i v x hv hx
   simp only[List.getElem?_map,Option.map_eq_some_iff]at hv
   obtain⟨u,hu,rfl⟩:=hv
   exact Azn (ACZ h1 u (List.mem_of_getElem? hu)) (h2.2 i u x hu hx)
  ·cases hy
theorem Ax5 {β:Nat→Base} {own:Nat→Option (Nat×List Nat)} {Hh:Hp}:∀ {ys:List Ty} {ts:List TypeId} {vs:List Value} {ds:List (DataW H)} {p:List MemPlace},Ahv P ys ts=true→
 (∀(j:Nat) t v,ts[j]? =some t→vs[j]? =some v→Value.okWide P W .any base t v)→DataW.TrodAll enc P W 0 (fun _=>true) true ts vs ds p→
 ∃as,ADx ys as∧Pw (VR (Abk Ah G W) β own Hh W) as vs
 | [],[],vs,ds,p,_,_,h=>by
  obtain⟨rfl,_,_⟩:=trodAll_nil h
  exact⟨[],rfl,ACv⟩
 | y::ys,t::ts,vs,ds,p,hy,hval,h=>by
  simp only[Ahv,Bool.and_eq_true]at hy
  obtain⟨v,vs',d,ds',p,q,rfl,rfl,rfl,h1,h2⟩:=trodAll_cons h
  obtain⟨a,ha,hr⟩:=ALf (Ah:=Ah) (G:=G) (β:=β) (own:=own) (Hh:=Hh) hy.1 (hval 0 t v rfl rfl) h1
  obtain⟨as,has,hrs⟩:=Ax5 (β:=β) (own:=own) (Hh:=Hh) hy.2 (fun j t v ht hv=>hval (j+1) t v (by simpa using ht) (by simpa using hv)) h2
  exact⟨a::as,⟨a,as,ha,has,rfl⟩,by have:=Ajs (Ajk hr) hrs;simpa using this⟩
 | [],_::_,_,_,_,hy,_,_=>by simp[Ahv]at hy
 | _::_,[],_,_,_,hy,_,_=>by simp[Ahv]at hy
theorem Aue (hw:∀b,b<W.heap.size→w'.heap[b]? =W.heap[b]?) {sp:Nat→Bool}:∀ {ys:List Ty} {ts:List TypeId} {vs:List Value} {ds:List (DataW H)} {p:List MemPlace},Ahv P ys ts=true→
 DataW.TrodAll enc P W 0 (fun _=>true) true ts vs ds p→(∀m,m∈p→sp m.block=true)→DataW.TrodAll enc P w' 0 sp true ts vs ds p
 | [],[],vs,ds,p,_,h,_=>by
  obtain⟨rfl,rfl,rfl⟩:=trodAll_nil h
  exact rfl
 | y::ys,t::ts,vs,ds,p,hy,h,hp=>by
  simp only[Ahv,Bool.and_eq_true]at hy
  obtain⟨v,vs',d,ds',p,q,rfl,rfl,rfl,⟨fuel,h1⟩,h2⟩:=trodAll_cons h
  exact⟨p,q,⟨fuel,Avf hw y t fuel _ _ hy.1 h1 fun m hm=>hp m (by simp[show m∈p from hm])⟩,Aue hw hy.2 h2 fun m hm=>hp m (by simp[hm]),rfl⟩
 | [],_::_,_,_,_,hy,_,_=>by simp[Ahv]at hy
 | _::_,[],_,_,_,hy,_,_=>by simp[Ahv]at hy
theorem Axb {f:FuncId} {fn:Func} {s:ChangeSpec} {apart fresh handsOn:Bool} {g:Nat} {ys:List Ty} {tb:TypeId} {args:Array Value} {ds gs:List (DataW H)} {before:List MemPlace}
 (hg:Ah g=some f) (hden:∀as,ADx ys as→Den P Ah G g as [] (.sc (.bool true)) []) (hG:∀b,G b→b<W.heap.size∧W.heap[b]? =G.is b)
 (hys:Ahv P ys fn.params.toList=true) (hrt:fn.resultTypes= #[tb]) (htb:P.underlying tb=some .bool)
 (hvars:s.vars=[]) (hs:∀ds:List (DataW H),ds.length=ys.length→s.fn H ds={results:=[.lit (.bool true)],args:=ds})
 (hval:∀(j:Nat) t v,fn.params[j]? =some t→args[j]? =some v→Value.okWide P W .any base t v)
 (hW:DataW.Whole enc P fn.params.toList s.vars apart W args.toList ds gs before):
 Calls P f args W fun e W'=>∃v,e= .returned v∧s.post enc P fn apart fresh handsOn false W args v W':=by
 have hW':=hW
 obtain⟨p,q,hA,hV,rfl,_,_⟩:=hW
 rw[hvars]at hV
 obtain⟨rfl,rfl⟩:=trodVars_none hV
 obtain⟨as,hvs,hr⟩:=Ax5 (Ah:=Ah) (G:=G) (β:=(Abk Ah G W).β0) (own:=(Abk Ah G W).own0) (Hh:=hp []) hys (fun j t v ht hv=>hval j t v (by simpa using ht) (by simpa using hv)) hA
 have call:=hden as hvs f hg (Abk Ah G W) rfl rfl rfl rfl rfl (ALp hG) args.toList hr
 have e:args.toList.toArray=args:=by simp
 rw[e]at call
 refine call.mono fun r W' hq=> ?_
 cases r with
 | returned x=>
  obtain⟨own',po⟩:=hq
  have hx:x= .bool true:=by
   have:=po.res
   cases this with
   | sc h1=>rfl
  subst hx
  have hw:∀b,b<W.heap.size→W'.heap[b]? =W.heap[b]? :=fun b hb=>po.keep b hb rfl
  have hlen:(ds:List (DataW H)).length=ys.length:=by
   have:∀ {ys:List Ty} {ts:List TypeId} {vs:List Value} {ds:List (DataW H)} {p:List MemPlace},Ahv P ys ts=true→DataW.TrodAll enc P W 0 (fun _=>true) true ts vs ds p→ds.length=ys.length:=by
    intro ys
    induction ys with
    | nil=>
     intro ts vs ds p hy h
     cases ts with
     | nil=>obtain⟨rfl,rfl,rfl⟩:=trodAll_nil h;rfl
     | cons=>simp[Ahv]at hy
    | cons y ys ih=>
     intro ts vs ds p hy h
     cases ts with
     | nil=>simp[Ahv]at hy
     | cons t ts=>
      simp only[Ahv,Bool.and_eq_true]at hy
      obtain⟨v,vs',d,ds',p,q,rfl,rfl,rfl,h1,h2⟩:=trodAll_cons h
      simp[ih hy.2 h2]
   exact this hys hA
  refine⟨_,rfl,ds,[],_,[],p,[],hW',?_,?_,?_,?_,?_⟩
  ·rw[List.append_nil,hs ds hlen,hrt]
   exact trodAll_cons_mk (shut_bool htb true) trodAll_mk0
  ·rw[List.append_nil,hs ds hlen]
   refine Aue hw hys hA fun m hm=> ?_
   have:=hW'.lt m (by simp[hm])
   simpa using this
  ·rw[hvars,List.append_nil,hs ds hlen];exact rfl
  ·refine⟨po.os,po.output,fun i hi=> ?_⟩
   rw[hw i hi]
   have hz:∃o,W.heap[i]? =some o:=⟨_,Array.getElem?_eq_getElem hi⟩
   obtain⟨o,ho⟩:=hz
   rw[ho]
   cases o with
   | cells c t fr=>exact⟨rfl,rfl,rfl,fun _ _=>rfl⟩
   | map es cl=>exact .inr ⟨rfl,rfl⟩
   | _=>rfl
  ·intro h;cases h
 | _=>exact hq.elim
end
end Go.Eng
