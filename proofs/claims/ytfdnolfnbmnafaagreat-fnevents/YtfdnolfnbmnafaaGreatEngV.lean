/- Own work: part 22 of the proof of FnEvents. -/
import Derived.Test.YtfdnolfnbmnafaaGreatEngU
set_option linter.unusedSimpArgs false
set_option linter.unusedVariables false
namespace Go.Eng
def okL (ok:Src→Operand→Bool):List Src→List Operand→Bool
 | [],[]=>true
 | s::r,x::t=>ok s x&&okL ok r t
 | _,_=>false
def okO (ok:Src→Operand→Bool):Option Src→Option Operand→Bool
 | none,none=>true
 | some s,some x=>ok s x
 | _,_=>false
def AGR (P:Program) (t:TypeId):Bool:=
 match P.underlying t with
 | some (.slice _)=>true
 | _=>false
def Aqc (P:Program) (t:TypeId):Bool:=
 match P.underlying t with
 | some .string=>true
 | _=>false
def Au4 (P:Program) (t:TypeId):Bool:=
 match P.underlying t with
 | some .bool=>true
 | _=>false
def AB2 (P:Program) (t:TypeId) (k:IntKind):Bool:=
 match P.underlying t with
 | some (.int k')=>k==k'
 | _=>false
def ALe (P:Program) (t:TypeId) (e len:Nat):Bool:=
 slB P t e&&decide (len*e≤2 ^ 24)&&match P.underlying t with
  | some (.slice et)=>match(P.info? et).bind (·.zero)with
   | some z=>z.cells.size==e
   | none=>false
  | _=>false
def okF (P:Program) (f:FuncId):Bool:=
 match P.funcs[f]? with
 | some fn=>fn.body.isSome&&fn.name != "runtime.NumGoroutine"
 | none=>false
def mOp (P:Program) (Ah:Nat→Option FuncId) (takes:List Nat) (ok:Src→Operand→Bool):JQ→Op→Bool
 | .mv x,.move y=>ok x y
 | .mv x,.assign y=>ok x y
 | .pick c a b,.pick c' a' b'=>ok c c'&&ok a a'&&ok b b'
 | .alloc _ zero,.alloc t=>Azi P Ah t zero
 | .box _ x,.box _ y=>ok x y
 | .build zero ps,.build t qs=>Azi P Ah t zero&&Aak P t&&Aep P t ps qs.toList&&okL ok (ps.map (·.2.2)) (qs.toList.map (·.2))
 | .buildSlice _ e len ps,.buildSlice t len' qs=>len' ==len&&decide (len≤2 ^ 24)&&ALe P t e len&&qs.toList.map (·.1)==List.range len&&okL ok ps (qs.toList.map (·.2))
 | .lend _ _ e len ps,.buildSlice t len' qs=>len' ==len&&decide (len≤2 ^ 24)&&ALe P t e len&&qs.toList.map (·.1)==List.range len&&okL ok ps (qs.toList.map (·.2))
 | .load n x,.load t y=>nB P t n&&ok x y
 | .take s x,.load t y=>nB P t none&&takes.contains s&&ok x y
 | .store n x v,.store t y z=>szB P t==some n&&ok x y&&ok v z
 | .bin op x y,.binOp op' _ x' y' _=>op==op'&&ok x x'&&ok y y'
 | .beq ne x y,.binOp op' t x' y' _=>op' ==(if ne then .neq else .eql)&&Au4 P t&&ok x x'&&ok y y'
 | .un op x,.unOp op' _ y=>op==op'&&ok x y
 | .conv k x,.convert src dst y=>(P.underlying src).isSome&&AB2 P dst k&&ok x y
 | .bstr x,.convert src dst y=>AIr P src dst&&ok x y
 | .len s x,.call c=>(match c.callee with | .builtin .len=>true | _=>false)&&(match c.args.toList,c.argTypes[0]? with
  | [y],some t=>(if s then Aqc P t else AGR P t)&&ok x y
  | _,_=>false)
 | .minmax mx x r,.call c=>(match c.callee with | .builtin .max=>mx | .builtin .min=> !mx | _=>false)&&okL ok (x::r) c.args.toList
 | .append _ e b _ x y,.call c=>(match c.callee with | .builtin .append=>true | _=>false)&&(match c.args.toList,c.argTypes.toList with
  | [x',y'],[t,t2]=>elB P t e b none&&slB P t2 e&&ok x x'&&ok y y'
  | _,_=>false)
 | .slice e x lo hi,.slice t y lo' hi' mx=>mx.isNone&&(if e=0 then Aqc P t else slB P t e)&&ok x y&&okO ok lo lo'&&okO ok hi hi'
 | .fieldAddr x off,.fieldAddr s y f=>Awj P s f off&&ok x y
 | .fieldAddr x off,.nilCheck y=>off==0&&ok x y
 | .indexAddr e x i,.indexAddr t y j=>slB P t e&&ok x y&&ok i j
 | .indexS x i,.index t y j=>Aqc P t&&ok x y&&ok i j
 | .indexA n e x i,.index t y j=>AL3 P t n e&&ok x y&&ok i j
 | .field n x off,.field t y f=>Axe P t f n off&&ok x y
 | .extract x i,.extract y j=>i==j&&ok x y
 | .makeSlice _ e b zero n,.makeSlice t l c=>elB P t e b (some zero)&&ok n l&&(match l,c with
  | .tmp a,.tmp b=>a==b
  | .const (.int k a),.const (.int k' b)=>k==k'&&a==b
  | _,_=>false)
 | .makeFunc g caps,.makeFunc fn first captured=>(match fn with | .func f=>Ah g==some f&&okF P f | _=>false)&&first.isEmpty&&okL ok caps captured.toList
 | .call g args _,.call c=>(match c.callee with | .value (.func f)=>Ah g==some f&&okF P f | _=>false)&&okL ok (args.map (·.2)) c.args.toList
 | .callv f args _,.call c=>(match c.callee with | .value y=>ok f y | _=>false)&&okL ok (args.map (·.2)) c.args.toList
 | .callp g args _,.call c=>(match c.callee with | .value (.func f)=>Ah g==some f&&okF P f | _=>false)&&okL ok (args.map (·.2)) c.args.toList
 | _,_=>false
def AgA:JQ→Bool
 | .store .. =>true
 | .call _ args _=>args.any (·.1)
 | .callv _ args _=>args.any (·.1)
 | _=>false
section
variable {P:Program} {F:Fr} {β:Nat→Base} {own:Nat→Option (Nat×List Nat)} {H:Hp} {w w':World}
theorem Yj {ok:Src→Operand→Bool}:∀ {ss:List Src} {xs:List Operand},okL ok ss xs=true→ss.length=xs.length∧∀(i:Nat) (s:Src) (x:Operand),ss[i]? =some s→xs[i]? =some x→ok s x=true
 | [],[],_=>by simp
 | [],_::_,h=>by cases h
 | _::_,[],h=>by cases h
 | s::r,x::t,h=>by
  simp only[okL,Bool.and_eq_true]at h
  obtain⟨h1,h2⟩:=Yj h.2
  refine⟨by simp[h1],?_⟩
  intro i s' x' hs hx
  cases i with
  | zero=>simp at hs hx;subst hs;subst hx;exact h.1
  | succ i=>exact h2 i s' x' (by simpa using hs) (by simpa using hx)
theorem AIA {s:Sem Value} {x:Value} {w w':World} (h:s.run P w= .ok x w'):(do pure (.value (←s)):Sem Next).run P w= .ok (.value x) w':=by
 rw[Sem.run_bind,h];rfl
theorem RF {o:Oper} {a:Act} {next:Act→World→Prop} {Q:Exit→Act→World→Prop} {r:Result Next} {v:V} {u:Gq} (h:Did F β own H w r v u)
 (hn:∀x w' β' own',(∀z y,VR F β own H w z y→VR F β' own' (A7 H u) w' z y)→Inv F β' own' (A7 H u) w'→VR F β' own' (A7 H u) w' v x→next (a.put o.dst x) w'):o.upon P a next Q r:=by
 obtain⟨x,w',β',own',hr,h1,h2,h3⟩:=h
 rcases hr with hr | ⟨hr,hx⟩
 ·rw[hr];exact hn x w' β' own' h1 h2 h3
 ·rw[hr,Oper.upon_skip];subst hx;exact hn undef w' β' own' h1 h2 h3
theorem Y7 {f:FuncId} (h:okF P f=true) (args:Array Value):(callFunc f args).run P w= .ok (.enter f args) w:=by
 unfold okF at h
 cases hf:P.funcs[f]? with
 | none=>simp[hf]at h
 | some fn=>
  simp only[hf,Bool.and_eq_true,bne_iff_ne,ne_eq]at h
  obtain⟨c,hc⟩:=Option.isSome_iff_exists.1 h.1
  have hname:(fn.name== "runtime.NumGoroutine")=false:=by simpa using h.2
  simp[callFunc,program,hf,hc,h.2,Sem.run,Result.andThen]
theorem V9 {t:TypeId} (h:Aqc P t=true):P.underlying t=some .string:=by
 unfold Aqc at h;split at h
 ·assumption
 ·cases h
theorem Aw3 {t:TypeId} (h:Au4 P t=true):P.underlying t=some .bool:=by
 unfold Au4 at h;split at h
 ·assumption
 ·cases h
theorem ApN {t:TypeId} (h:AGR P t=true):∃e,P.underlying t=some (.slice e):=by
 unfold AGR at h;split at h
 ·exact⟨_,‹_›⟩
 ·cases h
theorem Azo {t:TypeId} {k:IntKind} (h:AB2 P t k=true):P.underlying t=some (.int k):=by
 unfold AB2 at h;split at h
 ·rename_i k' hk
  have:k=k':=by simpa using h
  rw[this];exact hk
 ·cases h
theorem E8 {o:Oper} {a:Act} {next:Act→World→Prop} {Q:Exit→Act→World→Prop} {s:Sem Value} {v:V} (inv:Inv F β own H w)
 (h:∃x,s.run P w= .ok x w∧VR F β own H w v x)
 (hn:∀x w' β' own',(∀z y,VR F β own H w z y→VR F β' own' (A7 H []) w' z y)→Inv F β' own' (A7 H []) w'→VR F β' own' (A7 H []) w' v x→next (a.put o.dst x) w'):
 o.upon P a next Q ((do pure (.value (←s)):Sem Next).run P w):=by
 obtain⟨x,h1,h2⟩:=h
 rw[AIA h1]
 exact hn x w β own (fun _ _ h=>h) inv h2
theorem FI {vo:Option V} {K:V→Gq→Prop} (h:W9 (noU vo) K):∃v,vo=some v∧K v []:=by
 cases vo with
 | none=>exact h.elim
 | some v=>exact⟨v,rfl,h⟩
theorem Oz {r:Option (V×Gq)} {K:V→Gq→Prop} (h:W9 r K):∃v u,r=some (v,u)∧K v u:=by
 cases r with
 | none=>exact h.elim
 | some p=>exact⟨p.1,p.2,rfl,h⟩
theorem AD6 {ρc ρa ρb:Value} {vc va vb v:V} (hc:VR F β own H w vc ρc) (ha:VR F β own H w va ρa) (hb:VR F β own H w vb ρb) (h:AtZ vc va vb=some v):
 ∃x,(do pure (.value (if←asBool ρc then ρa else ρb)):Sem Next).run P w= .ok (.value x) w∧VR F β own H w v x:=by
 unfold AtZ at h
 split at h
 ·have:=Pz hc;subst this
  cases h
  rename_i t
  cases t
  ·exact⟨ρb,by simp[asBool],by simpa using hb⟩
  ·exact⟨ρa,by simp[asBool],by simpa using ha⟩
 ·cases h
theorem ADy {ok:Src→Operand→Bool} {ev:Src→V} {ρ:Operand→Value} (hok:∀s x,ok s x=true→VR F β own H w (ev s) (ρ x)) {ss:List Src} {xs:List Operand} (h:okL ok ss xs=true):
 Pw (VR F β own H w) (ss.map ev) (xs.map ρ):=by
 obtain⟨h1,h2⟩:=Yj h
 refine⟨by simp[h1],?_⟩
 intro i v x hv hx
 simp only[List.getElem?_map,Option.map_eq_some_iff]at hv hx
 obtain⟨s,hs,rfl⟩:=hv
 obtain⟨y,hy,rfl⟩:=hx
 exact hok s y (h2 i s y hs hy)
theorem Ag1 {Hm:Hp}:∀ {args:List (Bool×V)} {n:Nat} {ks:List Nat},Kc Hm n args=some ks→args.any (·.1)=false→ks=[]
 | [],_,_,h,_=>by cases h;rfl
 | (true,v)::r,_,_,_,ha=>by simp at ha
 | (false,v)::r,n,ks,h,ha=>by
  simp only[Kc]at h
  exact Ag1 h (by simpa using ha)
theorem At4 (inv:Inv F β own H w) {Hm:Hp} (hm:∀k,Hm k=H k∨Hm k= .dead) {c:Cf} (hcb:c.bor=F.bor) (hct:c.takes=F.takes) {D:Dn}
 (hD:∀g a gi r o,D g a gi r o→Den P F.Ah F.G g a gi r o) {args:List (Bool×V)} (htk:args.any (·.1)=true→∀s,s∈F.takes→Hm s=H s) {g f:Nat} (hf:F.Ah g=some f) {K:V→Gq→Prop} {sites:List Nat}
 (hs:KA D c Hm K g args sites) {xs:List Value} (hv:Pw (VR F β own H w) (args.map (·.2)) xs) {o:Oper} {a:Act} {next:Act→World→Prop} {Q:Exit→Act→World→Prop}
 (hn:∀v u x w' β' own',K v u→(∀z y,VR F β own H w z y→VR F β' own' (A7 H u) w' z y)→Inv F β' own' (A7 H u) w'→VR F β' own' (A7 H u) w' v x→next (a.put o.dst x) w'):
 o.upon P a next Q (.ok (.enter f xs.toArray) w):=by
 unfold KA at hs
 split at hs
 ·exact hs.elim
 rename_i ks hks
 split at hs
 ·exact hs.elim
 rename_i hcok
 split at hs
 ·exact hs.elim
 rename_i args' hca
 obtain⟨res,outs,hd,hs⟩:=hs
 split at hs
 ·rename_i u v u' ss' hb hi
  rw[Oper.upon_enter]
  refine(AKe inv hm hcb hct (fun hne=>htk (by cases hb2:args.any (·.1)with | true=>rfl | false=>exact absurd (Ag1 hks hb2) hne)) hv hks (by simpa using hcok) hca hf (hD _ _ _ _ _ hd) hb hi).mono ?_
  intro e w' he
  cases e with
  | returned x=>
   obtain⟨β',own',h1,h2,h3⟩:=he
   exact hn v (u++u') x w' β' own' hs h1 h2 h3
  | panicked _=>exact he.elim
  | outgrown=>exact he.elim
 ·exact hs.elim
theorem ACU (inv:Inv F β own H w) {Hm:Hp} (hm:∀k,Hm k=H k∨Hm k= .dead) {t:List Nat} {D:Dn}
 (hD:∀g a gi r o,D g a gi r o→Den P F.Ah F.G g a gi r o) {args:List (Bool×V)} {g f:Nat} (hf:F.Ah g=some f) {K:V→Gq→Prop} {sites:List Nat}
 (hs:KA D ⟨true,t⟩ Hm K g args sites) {xs:List Value} (hv:Pw (VR F β own H w) (args.map (·.2)) xs) {o:Oper} {a:Act} {next:Act→World→Prop} {Q:Exit→Act→World→Prop}
 (hn:∀v u x w' β' own',K v u→(∀z y,VR F β own H w z y→VR F β' own' (A7 H u) w' z y)→Inv F β' own' (A7 H u) w'→VR F β' own' (A7 H u) w' v x→next (a.put o.dst x) w'):
 o.upon P a next Q (.ok (.enter f xs.toArray) w):=by
 unfold KA at hs
 split at hs
 ·exact hs.elim
 rename_i ks hks
 split at hs
 ·exact hs.elim
 rename_i hcok
 split at hs
 ·exact hs.elim
 rename_i args' hca
 obtain⟨res,outs,hd,hs⟩:=hs
 split at hs
 ·rename_i u v u' ss' hb hi
  rw[Oper.upon_enter]
  refine(AHq inv hm hv hks (by simpa using hcok) hca hf (hD _ _ _ _ _ hd) hb hi).mono ?_
  intro e w' he
  cases e with
  | returned x=>
   obtain⟨β',own',h1,h2,h3⟩:=he
   exact hn v (u++u') x w' β' own' hs h1 h2 h3
  | panicked _=>exact he.elim
  | outgrown=>exact he.elim
 ·exact hs.elim
theorem AyH (inv:Inv F β own H w) {Hm:Hp} (hm:∀k,Hm k=H k∨Hm k= .dead) {c:Cf} (hcb:c.bor=F.bor) (hct:c.takes=F.takes) {D:Dn}
 (hD:∀g a gi r o,D g a gi r o→Den P F.Ah F.G g a gi r o) (hF:∀g f,F.Ah g=some f→okF P f=true) {ok:Src→Operand→Bool} {ev:Src→V} {o:Oper} {a:Act}
 (hok:∀s x,ok s x=true→VR F β own H w (ev s) (a.eval x)) {op:JQ} (htk:AgA op=true→∀s,s∈F.takes→Hm s=H s) (hmo:mOp P F.Ah c.takes ok op o.op=true) {K:V→Gq→Prop}
 (hs:stepW D c Hm ev op K) {next:Act→World→Prop} {Q:Exit→Act→World→Prop}
 (hn:∀v u x w' β' own',K v u→(∀z y,VR F β own H w z y→VR F β' own' (A7 H u) w' z y)→Inv F β' own' (A7 H u) w'→VR F β' own' (A7 H u) w' v x→next (a.put o.dst x) w'):
 o.wp P a w next Q:=by
 obtain⟨dst,oo,ty,pos,after,guard⟩:=o
 dsimp only at hmo hn
 have go:∀ {v:V} {u:Gq},K v u→∀x w' β' own',(∀z y,VR F β own H w z y→VR F β' own' (A7 H u) w' z y)→Inv F β' own' (A7 H u) w'→VR F β' own' (A7 H u) w' v x→next (a.put dst x) w':=
  fun hk x w' β' own' h1 h2 h3=>hn _ _ x w' β' own' hk h1 h2 h3
 unfold Oper.wp
 unfold mOp at hmo
 split at hmo
 ·
  exact go hs _ w β own (fun _ _ h=>h) inv (hok _ _ hmo)
 ·exact go hs _ w β own (fun _ _ h=>h) inv (hok _ _ hmo)
 ·
  simp only[Bool.and_eq_true]at hmo
  obtain⟨v,h1,hk⟩:=FI hs
  obtain⟨x,h3,h4⟩:=AD6 (P:=P) (hok _ _ hmo.1.1) (hok _ _ hmo.1.2) (hok _ _ hmo.2) h1
  show Oper.upon P _ a next Q (Sem.run P (do pure (.value (if←asBool _ then _ else _)):Sem Next) w)
  rw[h3]
  exact go hk x w β own (fun _ _ h=>h) inv h4
 ·
  rename_i kk zero t
  obtain⟨z,hz1,hz2,hz3⟩:=Aq7 (F:=F) (β:=β) (own:=own) (H:=H) (w:=w) hmo
  obtain⟨v,u,h1,hk⟩:=Oz hs
  refine RF (AD0 inv hm h1 (x:=z) (fun cs hcs=>by cases hcs;exact⟨hz2,hz3⟩) (et:=t) ?_) (go hk)
  show((do pure (.value (←Instr.alloc t true (.tuple #[]))):Sem Next).run P w)=_
  refine AIA ?_
  simp only[Instr.alloc,Sem.run_bind,hz1,Result.andThen_ok,newVar,newRow]
  simp[newObj,Sem.run]
 ·
  rename_i kk x t y
  obtain⟨v,u,h1,hk⟩:=Oz hs
  refine RF (AD0 inv hm h1 (x:=a.eval y) (fun cs hcs=>Zh (hok _ _ hmo) hcs) (et:=t) ?_) (go hk)
  show((do pure (.value (←Instr.box t (a.eval y))):Sem Next).run P w)=_
  refine AIA ?_
  simp[Instr.box,newVar,newRow,newObj,Sem.run]
 ·
  simp only[Bool.and_eq_true]at hmo
  obtain⟨v,h1,hk⟩:=FI hs
  split at h1
  ·rename_i cs hcs
   cases h1
   obtain⟨g1,g2⟩:=Yj hmo.2
   refine E8 inv (AG4 hmo.1.1.1 hmo.1.1.2 hmo.1.2 (fun j p q hp hq=>hok _ _ (g2 j _ _ (by simp[hp]) (by simp[hq]))) hcs) (go hk)
  ·cases h1
 ·
  rename_i kk e len ps t len' qs
  simp only[Bool.and_eq_true,beq_iff_eq,ALe,decide_eq_true_eq]at hmo
  obtain⟨⟨⟨⟨hl,hl2⟩,⟨hb1,hb2⟩,hb3⟩,hr⟩,ho⟩:=hmo
  subst hl
  obtain⟨v,u,h1,hk⟩:=Oz hs
  obtain⟨g1,g2⟩:=Yj ho
  refine RF (Ats inv hm hb1 hb2 hl2 ?_ hr (by simpa using g1) (fun j s q hs hq=>hok _ _ (g2 j _ _ hs (by simp[hq]))) h1) (go hk)
  intro et het
  rw[het]at hb3
  simp only at hb3
  split at hb3
  ·rename_i z hz
   exact⟨z,hz,by simpa using hb3⟩
  ·cases hb3
 ·
  rename_i kv kk e len ps t len' qs
  simp only[Bool.and_eq_true,beq_iff_eq,ALe,decide_eq_true_eq]at hmo
  obtain⟨⟨⟨⟨hl,hl2⟩,⟨hb1,hb2⟩,hb3⟩,hr⟩,ho⟩:=hmo
  subst hl
  obtain⟨v,u,h1,hk⟩:=Oz hs
  have h1':AzZ c.bor Hm _ _ _ _ _ _=some (v,u):=h1
  rw[hcb]at h1'
  obtain⟨g1,g2⟩:=Yj ho
  refine RF (AKA (F:=F) inv hm hb1 hb2 hl2 ?_ hr (by simpa using g1) (fun j s q hs hq=>hok _ _ (g2 j _ _ hs (by simp[hq]))) h1') (go hk)
  intro et het
  rw[het]at hb3
  simp only at hb3
  split at hb3
  ·rename_i z hz
   exact⟨z,hz,by simpa using hb3⟩
  ·cases hb3
 ·
  simp only[Bool.and_eq_true]at hmo
  obtain⟨v,h1,hk⟩:=FI hs
  rw[hcb]at h1
  exact E8 inv (ADC inv hm hmo.1 (hok _ _ hmo.2) h1) (go hk)
 ·
  simp only[Bool.and_eq_true,List.contains_iff_mem]at hmo
  obtain⟨v,u,h1,hk⟩:=Oz hs
  have h1':AyQ c.bor Hm _ _=some (v,u):=h1
  rw[hcb]at h1'
  exact RF (AKN inv hm hmo.1.1 (by rw[←hct];exact hmo.1.2) (hok _ _ hmo.2) h1') (go hk)
 ·
  rename_i n x vv t y z
  simp only[Bool.and_eq_true,beq_iff_eq]at hmo
  obtain⟨v,u,h1,hk⟩:=Oz hs
  have h1':(match Ap2 c.takes Hm n (ev x) (ev vv)with | some u=>some (V.undef,u) | none=>none)=some (v,u):=h1
  split at h1'
  ·rename_i u' hu'
   cases h1'
   exact RF (AHj inv hm hct.symm (fun s hs=>htk rfl s (by rw[←hct];exact hs)) hmo.1.1 (hok _ _ hmo.1.2) (hok _ _ hmo.2) hu') (go hk)
  ·cases h1'
 ·
  simp only[Bool.and_eq_true,beq_iff_eq]at hmo
  obtain⟨v,h1,hk⟩:=FI hs
  rw[hmo.1.1]at h1
  exact E8 inv (AMT (hok _ _ hmo.1.2) (hok _ _ hmo.2) h1) (go hk)
 ·
  rename_i ne x y op' t x' y' yt
  simp only[Bool.and_eq_true,beq_iff_eq]at hmo
  obtain⟨v,h1,hk⟩:=FI hs
  rw[hmo.1.1.1]
  exact E8 inv (AMN (Aw3 hmo.1.1.2) (hok _ _ hmo.1.2) (hok _ _ hmo.2) h1) (go hk)
 ·
  simp only[Bool.and_eq_true,beq_iff_eq]at hmo
  obtain⟨v,h1,hk⟩:=FI hs
  rw[hmo.1]at h1
  exact E8 inv (ANE (hok _ _ hmo.2) h1) (go hk)
 ·
  simp only[Bool.and_eq_true]at hmo
  obtain⟨v,h1,hk⟩:=FI hs
  exact E8 inv (AK6 (Option.isSome_iff_exists.1 hmo.1.1) (Azo hmo.1.2) (hok _ _ hmo.2) h1) (go hk)
 ·
  simp only[Bool.and_eq_true]at hmo
  obtain⟨v,h1,hk⟩:=FI hs
  exact E8 inv (AJX inv hm hmo.1 (hok _ _ hmo.2) h1) (go hk)
 ·
  rename_i str x c'
  obtain⟨callee,args,argTypes⟩:=c'
  simp only[Bool.and_eq_true]at hmo
  obtain⟨hc,hmo⟩:=hmo
  split at hc
  rotate_left
  ·cases hc
  split at hmo
  rotate_left
  ·cases hmo
  rename_i y t hargs hty
  simp only[Bool.and_eq_true]at hmo
  obtain⟨v,u,h1,hk⟩:=Oz hs
  have h1':(match AC4 str Hm (ev x)with | some n=>some (V.sc (.int .i64 n),[]) | none=>none)=some (v,u):=h1
  split at h1'
  rotate_left
  ·cases h1'
  rename_i n hn'
  cases h1'
  unfold AC4 at hn'
  split at hn'
  rotate_left
  ·cases hn'
  rename_i hstr
  have ha:args.map a.eval= #[a.eval y]:=by
   apply Array.ext'
   simp[hargs]
  show Oper.upon P _ a next Q ((do pure (.value (←Builtin.len_ argTypes ty (args.map a.eval))):Sem Next).run P w)
  rw[ha]
  have hiff:(∃s,ev x= .sc (.string s))↔str=true:=by
   rw[←hstr]
   unfold isStr
   split
   ·rename_i hh;simp[hh]
   ·rename_i hh;simp;intro s hs;exact hh s hs
  refine E8 inv ⟨.int .i64 n,AL8 hm hty ?_ (hok _ _ hmo.2) hn' ?_,.sc rfl⟩ (go hk)
  ·by_cases hb:str=true
   ·rw[if_pos hb]at hmo;exact .inl (V9 hmo.1)
   ·rw[if_neg hb]at hmo;exact .inr (ApN hmo.1)
  ·rw[hiff]
   by_cases hb:str=true
   ·rw[if_pos hb]at hmo;simp[hb,V9 hmo.1]
   ·rw[if_neg hb]at hmo
    obtain⟨e,he⟩:=ApN hmo.1
    simp[hb,he]
 ·
  rename_i mx x r c'
  obtain⟨callee,args,argTypes⟩:=c'
  simp only[Bool.and_eq_true]at hmo
  obtain⟨hc,hmo⟩:=hmo
  obtain⟨v,h1,hk⟩:=FI hs
  obtain⟨g1,g2⟩:=Yj hmo
  obtain⟨y,ys,hys⟩:∃y ys,args.toList=y::ys:=by
   cases hh:args.toList with
   | nil=>rw[hh]at g1;simp at g1
   | cons y ys=>exact⟨y,ys,rfl⟩
  rw[hys]at g1 g2
  have hfold:=AFz (P:=P) (ev:=ev) (ys:=r) (bs:=ys.map a.eval) (hok _ _ (g2 0 x y (by simp) (by simp))) (by simpa using g1) (fun i s z hs hz=>by
   simp only[List.getElem?_map,Option.map_eq_some_iff]at hz
   obtain⟨q,hq,rfl⟩:=hz
   exact hok _ _ (g2 (i+1) s q (by simpa using hs) (by simpa using hq))) h1
  split at hc
  ·have hmx:mx=true:=hc
   subst hmx
   show Oper.upon P _ a next Q ((do pure (.value (←Builtin.max_ argTypes ty (args.map a.eval))):Sem Next).run P w)
   refine E8 inv ?_ (go hk)
   simp only[Builtin.max_,Array.toList_map,hys,List.map_cons]
   exact hfold
  ·have hmx:mx=false:=by simpa using hc
   subst hmx
   show Oper.upon P _ a next Q ((do pure (.value (←Builtin.min_ argTypes ty (args.map a.eval))):Sem Next).run P w)
   refine E8 inv ?_ (go hk)
   simp only[Builtin.min_,Array.toList_map,hys,List.map_cons]
   exact hfold
  ·cases hc
 ·
  rename_i kk e b mv x y c'
  obtain⟨callee,args,argTypes⟩:=c'
  simp only[Bool.and_eq_true]at hmo
  obtain⟨hc,hmo⟩:=hmo
  split at hc
  rotate_left
  ·cases hc
  split at hmo
  rotate_left
  ·cases hmo
  rename_i x' y' t t2 hargs hty
  simp only[Bool.and_eq_true]at hmo
  obtain⟨v,u,h1,hk⟩:=Oz hs
  have ha:args.map a.eval= #[a.eval x',a.eval y']:=by
   apply Array.ext'
   simp[hargs]
  have ht:argTypes= #[t,t2]:=by
   apply Array.ext'
   simpa using hty
  show Oper.upon P _ a next Q ((do pure (.value (←Builtin.append_ argTypes ty (args.map a.eval))):Sem Next).run P w)
  rw[ha,ht]
  exact RF (AFE inv hm hmo.1.1.1 hmo.1.1.2 (hok _ _ hmo.1.2) (hok _ _ hmo.2) h1) (go hk)
 ·
  rename_i e x lo hi t y lo' hi' mx
  simp only[Bool.and_eq_true,Option.isNone_iff_eq_none]at hmo
  obtain⟨⟨⟨⟨hmx,ht⟩,hx⟩,hlo⟩,hhi⟩:=hmo
  subst hmx
  have key:∃l h v,(match lo with | none=>l=0 | some s=>asI (ev s)=some l)∧(match hi,h with | none,none=>True | some s,some h=>asI (ev s)=some h | _,_=>False)∧
   Zu Hm e (ev x) (some l) h=some v∧K v []:=by
   have hs':W9 (match lo.map (fun s=>asI (ev s)),hi.map (fun s=>asI (ev s))with
    | some none,_=>none
    | _,some none=>none
    | l,h=>noU (Zu Hm e (ev x) (l.getD (some 0)) (h.getD none))) K:=hs
   cases lo with
   | none=>
    cases hi with
    | none=>
     obtain⟨v,h1,hk⟩:=FI (vo:=Zu Hm e (ev x) (some 0) none) hs'
     exact⟨0,none,v,rfl,trivial,h1,hk⟩
    | some s=>
     cases hh:asI (ev s)with
     | none=>simp only[Option.map_none,Option.map_some,hh]at hs';exact hs'.elim
     | some h=>
      simp only[Option.map_none,Option.map_some,hh]at hs'
      obtain⟨v,h1,hk⟩:=FI hs'
      exact⟨0,some h,v,rfl,hh,h1,hk⟩
   | some sl=>
    cases hl:asI (ev sl)with
    | none=>simp only[Option.map_some,hl]at hs';exact hs'.elim
    | some l=>
     cases hi with
     | none=>
      simp only[Option.map_none,Option.map_some,hl]at hs'
      obtain⟨v,h1,hk⟩:=FI hs'
      exact⟨l,none,v,hl,trivial,h1,hk⟩
     | some s=>
      cases hh:asI (ev s)with
      | none=>simp only[Option.map_some,hl,hh]at hs';exact hs'.elim
      | some h=>
       simp only[Option.map_some,hl,hh]at hs'
       obtain⟨v,h1,hk⟩:=FI hs'
       exact⟨l,some h,v,hl,hh,h1,hk⟩
  obtain⟨l,h,v,hl,hh,h1,hk⟩:=key
  unfold Zu at h1
  split at h1
  rotate_left
  ·cases h1
  rename_i hstr
  have hiff:(∃s,ev x= .sc (.string s))↔isStr (ev x)=true:=by
   unfold isStr
   split
   ·rename_i hh;simp[hh]
   ·rename_i hh;simp;intro s hs;exact hh s hs
  refine E8 (s:=Instr.sliceAt t (a.eval y) (lo'.map a.eval) (hi'.map a.eval) none) inv (AIF inv hm (e:=e) (l:=l) (h:=h) ?_ ?_ ?_ ?_ (hok _ _ hx) h1) (go hk)
  ·intro hh2
   rw[hiff,hstr]at hh2
   have he:e=0:=by simpa using hh2
   rw[if_pos he]at ht
   exact V9 ht
  ·intro hh2
   rw[hiff,hstr]at hh2
   have he:e≠0:=by simpa using hh2
   rw[if_neg he]at ht
   exact ht
  ·cases lo with
   | none=>cases lo' with
    | none=>exact hl
    | some _=>cases hlo
   | some s=>cases lo' with
    | none=>cases hlo
    | some q=>exact Abw (hok _ _ hlo) hl
  ·cases hi with
   | none=>cases hi' with
    | none=>cases h with
     | none=>trivial
     | some _=>exact hh.elim
    | some _=>cases hhi
   | some s=>cases hi' with
    | none=>cases hhi
    | some q=>cases h with
     | none=>exact hh.elim
     | some hv=>exact Abw (hok _ _ hhi) hh
 ·
  simp only[Bool.and_eq_true]at hmo
  obtain⟨v,h1,hk⟩:=FI hs
  exact E8 inv (AwO hmo.1 (hok _ _ hmo.2) h1) (go hk)
 ·
  rename_i x off y
  simp only[Bool.and_eq_true,beq_iff_eq]at hmo
  obtain⟨h0,hx⟩:=hmo
  subst h0
  obtain⟨v,h1,hk⟩:=FI hs
  obtain⟨⟨ad,he⟩,h2⟩:=AKD (hok _ _ hx) h1
  rw[he]at h2
  simp only[execOp,he]
  exact go hk _ w β own (fun _ _ h=>h) inv h2
 ·
  rename_i e x i t y j
  simp only[Bool.and_eq_true]at hmo
  have hs':W9 (match asI (ev i)with | some i=>noU (Lp Hm e (ev x) i) | none=>none) K:=hs
  split at hs'
  ·rename_i ii hii
   obtain⟨v,h1,hk⟩:=FI hs'
   exact E8 inv (Axg inv hm hmo.1.1 (hok _ _ hmo.1.2) (hok _ _ hmo.2) hii h1) (go hk)
  ·exact hs'.elim
 ·
  rename_i x i t y j
  simp only[Bool.and_eq_true]at hmo
  have hs':W9 (match asI (ev i)with | some i=>noU (Yp (ev x) i) | none=>none) K:=hs
  split at hs'
  ·rename_i ii hii
   obtain⟨v,h1,hk⟩:=FI hs'
   exact E8 inv (AEP (V9 hmo.1.1) (hok _ _ hmo.1.2) (hok _ _ hmo.2) hii h1) (go hk)
  ·exact hs'.elim
 ·
  rename_i n e x i t y j
  simp only[Bool.and_eq_true]at hmo
  have hs':W9 (match asI (ev i)with | some i=>noU (Agc n e (ev x) i) | none=>none) K:=hs
  split at hs'
  ·rename_i ii hii
   obtain⟨v,h1,hk⟩:=FI hs'
   exact E8 inv (AFm hmo.1.1 (hok _ _ hmo.1.2) (hok _ _ hmo.2) hii h1) (go hk)
  ·exact hs'.elim
 ·
  simp only[Bool.and_eq_true]at hmo
  obtain⟨v,h1,hk⟩:=FI hs
  exact E8 inv (AHJ hmo.1 (hok _ _ hmo.2) h1) (go hk)
 ·
  rename_i x i y j
  simp only[Bool.and_eq_true,beq_iff_eq]at hmo
  obtain⟨v,h1,hk⟩:=FI hs
  rw[←hmo.1]
  exact E8 inv (ACc (hok _ _ hmo.2) h1) (go hk)
 ·
  rename_i kk e b zero n t l cc
  simp only[Bool.and_eq_true]at hmo
  have hs':W9 (match asI (ev n)with | some n=>UW Hm kk e b zero n | none=>none) K:=hs
  split at hs'
  ·rename_i ni hni
   obtain⟨v,u,h1,hk⟩:=Oz hs'
   have hcc:a.eval cc=a.eval l:=by
    have h2:=hmo.2
    split at h2
    ·have:_=_:=beq_iff_eq.1 h2
     rw[this]
    ·simp only[Bool.and_eq_true,beq_iff_eq]at h2
     rw[h2.1,h2.2]
    ·cases h2
   show Oper.upon P _ a next Q ((do pure (.value (←Instr.makeSlice t (a.eval l) (a.eval cc))):Sem Next).run P w)
   rw[hcc]
   exact RF (Au1 inv hm hmo.1.1 (hok _ _ hmo.1.2) hni h1) (go hk)
  ·exact hs'.elim
 ·
  rename_i g caps fn first captured
  simp only[Bool.and_eq_true,Array.isEmpty_iff]at hmo
  obtain⟨⟨hf,hfi⟩,hc⟩:=hmo
  subst hfi
  split at hf
  rotate_left
  ·cases hf
  rename_i f
  simp only[Bool.and_eq_true,beq_iff_eq]at hf
  have hk:K (.fn g (caps.map ev)) []:=hs
  have hp:=ADy (F:=F) (β:=β) (own:=own) (H:=H) (w:=w) hok hc
  show Oper.upon P _ a next Q ((do pure (.value (←Instr.makeFunc (.func f) ((#[]:Array Operand).map a.eval) (captured.map a.eval))):Sem Next).run P w)
  refine E8 inv ⟨_,rfl,?_⟩ (go hk)
  have:=VR.fn (β:=β) (own:=own) (H:=H) (w:=w) hf.1 hp.1 hp.2
  have hcap:captured.map a.eval=(captured.toList.map a.eval).toArray:=by
   apply Array.ext';simp
  simpa[hcap]using this
 ·
  rename_i g args sites c'
  obtain⟨callee,cargs,argTypes⟩:=c'
  simp only[Bool.and_eq_true]at hmo
  obtain⟨hf,ha⟩:=hmo
  split at hf
  rotate_left
  ·cases hf
  rename_i f
  simp only[Bool.and_eq_true,beq_iff_eq]at hf
  have hp:=ADy (F:=F) (β:=β) (own:=own) (H:=H) (w:=w) hok ha
  have hr:(execOp a.eval ⟨dst,.call ⟨.value (.func f),cargs,argTypes⟩,ty,pos,after,guard⟩).run P w= .ok (.enter f (cargs.toList.map a.eval).toArray) w:=by
   have h1:=Y7 (w:=w) hf.2 (cargs.toList.map a.eval).toArray
   rw[←h1]
   show(callFunc f (#[]++cargs.map a.eval++ #[])).run P w=_
   congr 2
   apply Array.ext';simp
  rw[hr]
  exact At4 inv hm hcb hct hD (fun hh=>htk (by simpa[AgA,List.any_map,Function.comp_def]using hh)) hf.1 hs (by simpa[Function.comp_def]using hp) hn
 ·
  rename_i f args sites c'
  obtain⟨callee,cargs,argTypes⟩:=c'
  simp only[Bool.and_eq_true]at hmo
  obtain⟨hf,ha⟩:=hmo
  split at hf
  rotate_left
  ·cases hf
  rename_i y
  have hfv:=hok _ _ hf
  have hp:=ADy (F:=F) (β:=β) (own:=own) (H:=H) (w:=w) hok ha
  have hs':(match ev f with | .fn g caps=>KA D c Hm K g ((args.map fun(b,x)=>(b,ev x))++caps.map fun v=>(false,v)) sites | _=>False):=hs
  split at hs'
  ·rename_i g caps hev
   rw[hev]at hfv
   generalize hy:a.eval y=yv at hfv
   cases hfv with
   | @fn _ _ fi vs hfid hvl hvc=>
    have hr:(execOp a.eval ⟨dst,.call ⟨.value y,cargs,argTypes⟩,ty,pos,after,guard⟩).run P w= .ok (.enter fi (cargs.toList.map a.eval++vs).toArray) w:=by
     have h1:=Y7 (w:=w) (hF _ _ hfid) (cargs.toList.map a.eval++vs).toArray
     rw[←h1]
     show(do let d←Deferred.ofValue (a.eval y) (cargs.map a.eval);invoke d.target d.args:Sem Next).run P w=_
     rw[hy]
     show(callFunc fi (#[]++cargs.map a.eval++vs.toArray)).run P w=_
     congr 2
     apply Array.ext';simp
    rw[hr]
    refine At4 inv hm hcb hct hD (fun hh=>htk (by simpa[AgA,List.any_map,Function.comp_def]using hh)) hfid hs' ?_ hn
    have hp2:Pw (VR F β own H w) caps vs:=⟨hvl,hvc⟩
    have:=hp.append hp2
    simpa[Function.comp_def]using this
  ·exact hs'.elim
 ·
  rename_i g args sites c'
  obtain⟨callee,cargs,argTypes⟩:=c'
  simp only[Bool.and_eq_true]at hmo
  obtain⟨hf,ha⟩:=hmo
  split at hf
  rotate_left
  ·cases hf
  rename_i f
  simp only[Bool.and_eq_true,beq_iff_eq]at hf
  have hp:=ADy (F:=F) (β:=β) (own:=own) (H:=H) (w:=w) hok ha
  have hr:(execOp a.eval ⟨dst,.call ⟨.value (.func f),cargs,argTypes⟩,ty,pos,after,guard⟩).run P w= .ok (.enter f (cargs.toList.map a.eval).toArray) w:=by
   have h1:=Y7 (w:=w) hf.2 (cargs.toList.map a.eval).toArray
   rw[←h1]
   show(callFunc f (#[]++cargs.map a.eval++ #[])).run P w=_
   congr 2
   apply Array.ext';simp
  rw[hr]
  exact ACU inv hm hD hf.1 hs (by simpa[Function.comp_def]using hp) hn
 ·cases hmo
end
end Go.Eng
