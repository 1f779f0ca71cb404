/- Own work: part 35 of the proof of FnEvents. -/
import Derived.Test.YtfdnolfnbmnafaaGreatEngAH
set_option linter.unusedSimpArgs false
set_option linter.unusedVariables false
namespace Go.Eng
def Ajd (P:Program) (st:List Tmp):List Res→List ResultVar→Bool
 | [],[]=>true
 | .slot i::r,.tmp t::l=>st[i]? ==some t&&Ajd P st r l
 | .cell i n::r,.cell t ty::l=>st[i]? ==some t&&nB P ty n&&Ajd P st r l
 | _,_=>false
def Bq (P:Program) (Ah:Nat→Option FuncId) (st:List Tmp) (f:Bp) (fn:Func):Bool:=
 (match fn.body with | some code=>OM P Ah f.takes f.ngiven st fn.ntmps f.body code | none=>false)&&
 (f.params.zipIdx.all fun p=>st[p.1]? ==some p.2)&&decide (f.params.length≤fn.ntmps)&&Ajd P st f.results fn.results.toList
theorem AHD (given:List O) (n:Nat):hp (given++List.replicate n .free)=hp given:=by
 funext k
 simp only[hp,List.getD_eq_getElem?_getD,List.getElem?_append]
 split
 ·rfl
 ·rename_i h
  rw[List.getElem?_eq_none (by omega:given.length≤k),List.getElem?_replicate]
  split<;>rfl
section
variable {P:Program} {F:Fr} {st:List Tmp} {nt:Nat} {β:Nat→Base} {own:Nat→Option (Nat×List Nat)} {H:Hp} {w:World}
def Fr.as (F:Fr) (bor:Bool) (takes:List Nat):Fr:={F with bor:=bor,takes:=takes}
theorem AMO (hb:F.bor=false) {bor:Bool} {takes:List Nat} {fl b:Nat} (h1:1≤fl) (h:F.S w own fl b):(F.as bor takes).S w own fl b:=by
 match fl,h1 with
 | 1,_=>exact h
 | 2,_=>have:=h.1;rw[hb]at this;cases this
 | 3,_=>exact h
 | n+4,_=>have:=h.1;rw[hb]at this;cases this
theorem ALx (hb:F.bor=false) {bor:Bool} {takes:List Nat} {v:V} {x:Value} (h:VR F β own H w v x):VR (F.as bor takes) β own H w v x:=by
 induction h with
 | sc h1=>exact .sc h1
 | nil e=>exact .nil e
 | rd h1 h=>exact .rd h1 (h.move (fun b hb'=>AMO hb h1 hb') (fun _ _=>rfl))
 | rptr h1 h=>exact .rptr h1 (h.move (fun b hb'=>AMO hb h1 hb') (fun _ _=>rfl))
 | arr h=>exact .arr h
 | sub h hn hx=>exact .sub h hn hx
 | ptr h hb'=>exact .ptr h hb'
 | goneA h=>exact .goneA h
 | goneS h=>exact .goneS h
 | goneP h=>exact .goneP h
 | fn hf hv hc ih=>exact .fn hf hv ih
 | agg h1 hv hc ih=>exact .agg h1 hv ih
 | tup hv hc ih=>exact .tup hv ih
 | undef=>exact .undef
theorem ANV (hb:F.bor=false) {bor:Bool} {takes:List Nat} {k:Nat} {B:Base} {e t len:Nat} {cs:List V} (h:AR F own w k B e t len cs):AR (F.as bor takes) own w k B e t len cs:=by
 obtain⟨vs,g1,g2,g3,g4,g5⟩:=h
 refine⟨vs,g1,g2,g3,g4,fun i v x hv hx=> ?_⟩
 exact(g5 i v x hv hx).move (Nat.le_refl _) (fun fl b h1 _ hs=>AMO hb h1 hs) (fun _ _ _ _ _=>rfl) (fun b q hb'=>⟨hb',rfl⟩)
theorem AMb (hb:F.bor=false) (ht:F.takes=[]) {bor:Bool} {takes:List Nat} (inv:Inv F β own H w):Inv (F.as bor takes) β own H w:=by
 refine⟨inv.size,inv.keep,inv.os,inv.tape,inv.output,inv.ownb,inv.glob,?_,inv.given,inv.gfree⟩
 intro k
 have ho:=inv.objs k
 cases hH:H k with
 | free=>trivial
 | dead=>trivial
 | var cs=>
  rw[hH]at ho
  obtain⟨b,o,vs,g1,g2,g3,g4,g5⟩:=ho
  exact⟨b,o,vs,g1,g2,g3,g4,fun i v x hv hx=>ALx hb (g5 i v x hv hx)⟩
 | arr e t len cs=>rw[hH]at ho;exact ANV hb ho
 | tarr k' off e t len cs=>
  rw[hH]at ho
  have:=ho.2.1
  rw[ht]at this;cases this
def AKO (tmps:Array Value):ResultVar→Sem Value
 | .tmp t=>pure (tmps.getD t undef)
 | .cell a t=>do loadVar t (←asAddr (tmps.getD a undef))
theorem AwW {β:Nat→Base} {own:Nat→Option (Nat×List Nat)} {s:St} {a:Act} {w:World} (rel:Rel F st nt β own s a w):∀ {rs:List Res} {ls:List ResultVar} {vs:List V},Ajd P st rs ls=true→AkC s rs=some vs→
 ∃xs:List Value,(ls.mapM (AKO a.tmps)).run P w= .ok xs w∧Pw (VR F β own (hp s.H) w) vs xs
 | [],[],vs,_,h=>by cases h;exact⟨[],by simp,.nil⟩
 | [],_::_,vs,hm,_=>by simp[Ajd]at hm
 | .slot _::_,[],vs,hm,_=>by simp[Ajd]at hm
 | .cell _ _::_,[],vs,hm,_=>by simp[Ajd]at hm
 | .slot i::rs,.cell p ty::ls,vs,hm,_=>by simp[Ajd]at hm
 | .cell i n::rs,.tmp t::ls,vs,hm,_=>by simp[Ajd]at hm
 | .slot i::rs,.tmp t::ls,vs,hm,h=>by
  simp only[Ajd,Bool.and_eq_true,beq_iff_eq]at hm
  simp only[AkC]at h
  split at h
  ·rename_i v l hv hl
   cases h
   obtain⟨xs,h1,h2⟩:=AwW rel hm.2 hl
   have:v=s.env.getD i .undef:=by simpa[AIJ]using hv.symm
   subst this
   exact⟨a.tmps.getD t undef::xs,by rw[List.mapM_cons];simp only[AKO,Sem.run_bind,Sem.run_pure,Result.andThen_ok,h1],.cons (rel.env i t hm.1) h2⟩
  ·cases h
 | .cell i n::rs,.cell p ty::ls,vs,hm,h=>by
  simp only[Ajd,Bool.and_eq_true,beq_iff_eq]at hm
  simp only[AkC]at h
  split at h
  ·rename_i v l hv hl
   cases h
   obtain⟨xs,h1,h2⟩:=AwW rel hm.2 hl
   have henv:=rel.env i p hm.1.1
   have hload:Akr F.bor (hp s.H) n (s.env.getD i .undef)=some v:=by
    simp only[AIJ]at hv
    split at hv
    ·rename_i k off hk
     rw[hk]
     split at hv
     ·rename_i cs hc
      simp only[Akr,AcM,hc,Iy]
      have hlt:=(List.getElem?_eq_some_iff.1 hv)
      obtain⟨h3,h4⟩:=hlt
      rw[if_pos (by omega)]
      have:(cs.drop off).take 1=[v]:=by
       rw[←h4]
       rw[List.drop_eq_getElem_cons h3,List.take_succ_cons,List.take_zero]
      rw[this]
     ·cases hv
    ·rename_i k off n' hk
     rw[hk]
     split at hv
     ·rename_i cs hc
      simp only[Akr,AcM,hc]
      split at hv
      ·rename_i c hg
       cases hv
       rw[hg]
      ·cases hv
     ·cases hv
    ·cases hv
   obtain⟨x,hx1,hx2⟩:=ADC (P:=P) rel.inv (fun k=> .inl rfl) hm.1.2 henv hload
   have hptr:∃ad,a.tmps.getD p undef= .pointer (some ad):=by
    generalize a.tmps.getD p undef=y at henv
    simp only[AIJ]at hv
    split at hv
    ·rename_i k off hk
     rw[hk]at henv
     cases henv<;>exact⟨_,rfl⟩
    ·rename_i k off n' hk
     rw[hk]at henv
     cases henv<;>exact⟨_,rfl⟩
    ·cases hv
   obtain⟨ad,had⟩:=hptr
   have hld:(AKO a.tmps (.cell p ty)).run P w= .ok x w:=by
    rw[←hx1]
    simp only[AKO,had,asAddr,Instr.loadAt,Instr.sureAddr]
   exact⟨x::xs,by rw[List.mapM_cons];simp only[Sem.run_bind,hld,Result.andThen_ok,Sem.run_pure,h1],.cons hx2 h2⟩
  ·cases h
theorem AMs {β:Nat→Base} {own:Nat→Option (Nat×List Nat)} {H:Hp} {vs:List V} {xs:List Value} (h:Pw (VR F β own H w) vs xs):
 VR F β own H w (tie vs) (if h:xs.toArray.size=1 then xs.toArray[0]else .tuple xs.toArray):=by
 match vs,h with
 | [],h=>rw[h.PO];exact .tup rfl (by simp)
 | [v],h=>
  obtain⟨x,r,rfl,h1,h2⟩:=h.Ju
  rw[h2.PO]
  simpa[tie]using h1
 | v::u::r,h=>
  have hl:=h.1
  have:¬xs.toArray.size=1:=by simp at hl⊢;omega
  rw[dif_neg this]
  exact .tup h.1 h.2
theorem AyZ {β:Nat→Base} {own:Nat→Option (Nat×List Nat)} {s:St} {a:Act} {w:World} (rel:Rel F st nt β own s a w) {fn:Func} {rs:List Res} {vs:List V} (hm:Ajd P st rs fn.results.toList=true)
 (h:AkC s rs=some vs):∃x,(results fn a.tmps).run P w= .ok x w∧VR F β own (hp s.H) w (tie vs) x:=by
 obtain⟨xs,h1,h2⟩:=AwW (P:=P) rel hm h
 refine⟨_,?_,AMs h2⟩
 unfold results
 rw[show fn.results=fn.results.toList.toArray by simp,List.mapM_toArray]
 simp only[Sem.run_bind,Sem.run_map]
 have key:∀f:ResultVar→Sem Value,(∀u,f (.tmp u)=pure (a.tmps.getD u undef))→(∀q t,f (.cell q t)=(do loadVar t (←asAddr (a.tmps.getD q undef))))→(fn.results.toList.mapM f).run P w= .ok xs w:=by
  intro f hf hc
  rw[←h1]
  congr 2
  funext x
  cases x with
  | tmp u=>exact hf u
  | cell q t=>exact hc q t
 rw[key]
 ·simp
 ·intro u;rfl
 ·intro q t;rfl
end
end Go.Eng
