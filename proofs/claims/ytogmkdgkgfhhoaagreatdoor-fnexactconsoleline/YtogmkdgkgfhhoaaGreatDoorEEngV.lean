/- Own work: part 8 of the proof of FnExactConsoleLine. -/
import Derived.Test.YtogmkdgkgfhhoaaGreatDoorEEngR
import Derived.Orders
set_option linter.unusedSimpArgs false
set_option linter.unusedVariables false
namespace Go.Eng
def okL (ok:Src->Operand->Bool):List Src->List Operand->Bool
 | [],[]=>true
 | s::r,x::t=>ok s x&&okL ok r t
 | _,_=>false
def okO (ok:Src->Operand->Bool):Option Src->Option Operand->Bool
 | none,none=>true
 | some s,some x=>ok s x
 | _,_=>false
def Amv (P:Program) (t:TypeId):Bool:=
 match P.underlying t with
 | some (.slice _)=>true
 | _=>false
def AbJ (P:Program) (t:TypeId):Bool:=
 match P.underlying t with
 | some .string=>true
 | _=>false
def Aeq (P:Program) (t:TypeId):Bool:=
 match P.underlying t with
 | some .bool=>true
 | _=>false
def Ai5 (P:Program) (t:TypeId) (k:IntKind):Bool:=
 match P.underlying t with
 | some (.int k')=>k==k'
 | _=>false
def AoP (P:Program) (t:TypeId) (e len:Nat):Bool:=
 slB P t e&&decide (len*e<=2 ^ 24)&&match P.underlying t with
  | some (.slice et)=>match(P.info? et).bind (·.zero)with
   | some z=>z.cells.size==e
   | none=>false
  | _=>false
def okF (P:Program) (f:FuncId):Bool:=
 match P.funcs[f]? with
 | some fn=>fn.body.isSome&&fn.name != "runtime.NumGoroutine"
 | none=>false
def mOp (P:Program) (Ae:Nat->Option FuncId) (takes:List Nat) (ok:Src->Operand->Bool):LG->Op->Bool
 | .mv x,.move y=>ok x y
 | .mv x,.assign y=>ok x y
 | .pick c a b,.pick c' a' b'=>ok c c'&&ok a a'&&ok b b'
 | .alloc _ zero,.alloc t=>Ahc P Ae t zero
 | .box _ x,.box _ y=>ok x y
 | .build zero ps,.build t qs=>Ahc P Ae t zero&&QU P t&&Ub P t ps qs.toList&&okL ok (ps.map (·.2.2)) (qs.toList.map (·.2))
 | .buildSlice _ e len ps,.buildSlice t len' qs=>len' ==len&&decide (len<=2 ^ 24)&&AoP P t e len&&qs.toList.map (·.1)==List.range len&&okL ok ps (qs.toList.map (·.2))
 | .lend _ _ e len ps,.buildSlice t len' qs=>len' ==len&&decide (len<=2 ^ 24)&&AoP P t e len&&qs.toList.map (·.1)==List.range len&&okL ok ps (qs.toList.map (·.2))
 | .load n x,.load t y=>nB P t n&&ok x y
 | .take s x,.load t y=>nB P t none&&takes.contains s&&ok x y
 | .store n x v,.store t y z=>szB P t==some n&&ok x y&&ok v z
 | .bin op x y,.binOp op' _ x' y' _=>op==op'&&ok x x'&&ok y y'
 | .beq ne x y,.binOp op' t x' y' _=>op' ==(if ne then .neq else .eql)&&Aeq P t&&ok x x'&&ok y y'
 | .un op x,.unOp op' _ y=>op==op'&&ok x y
 | .conv k x,.convert src dst y=>(P.underlying src).isSome&&Ai5 P dst k&&ok x y
 | .bstr x,.convert src dst y=>Am4 P src dst&&ok x y
 | .len s x,.call c=>(match c.callee with | .builtin .len=>true | _=>false)&&(match c.args.toList,c.argTypes[0]? with
  | [y],some t=>(if s then AbJ P t else Amv P t)&&ok x y
  | _,_=>false)
 | .minmax mx x r,.call c=>(match c.callee with | .builtin .max=>mx | .builtin .min=> !mx | _=>false)&&okL ok (x::r) c.args.toList
 | .append _ e b _ x y,.call c=>(match c.callee with | .builtin .append=>true | _=>false)&&(match c.args.toList,c.argTypes.toList with
  | [x',y'],[t,t2]=>elB P t e b none&&slB P t2 e&&ok x x'&&ok y y'
  | _,_=>false)
 | .slice e x lo hi,.slice t y lo' hi' mx=>mx.isNone&&(if e=0 then AbJ P t else slB P t e)&&ok x y&&okO ok lo lo'&&okO ok hi hi'
 | .fieldAddr x off,.fieldAddr s y f=>Ad6 P s f off&&ok x y
 | .fieldAddr x off,.nilCheck y=>off==0&&ok x y
 | .indexAddr e x i,.indexAddr t y j=>slB P t e&&ok x y&&ok i j
 | .indexS x i,.index t y j=>AbJ P t&&ok x y&&ok i j
 | .indexA n e x i,.index t y j=>Ap1 P t n e&&ok x y&&ok i j
 | .field n x off,.field t y f=>AeW P t f n off&&ok x y
 | .extract x i,.extract y j=>i==j&&ok x y
 | .makeSlice _ e b zero n,.makeSlice t l c=>elB P t e b (some zero)&&ok n l&&(match l,c with
  | .tmp a,.tmp b=>a==b
  | .const (.int k a),.const (.int k' b)=>k==k'&&a==b
  | _,_=>false)
 | .makeFunc g caps,.makeFunc fn first captured=>(match fn with | .func f=>Ae g==some f&&okF P f | _=>false)&&first.isEmpty&&okL ok caps captured.toList
 | .call g args _,.call c=>(match c.callee with | .value (.func f)=>Ae g==some f&&okF P f | _=>false)&&okL ok (args.map (·.2)) c.args.toList
 | .callv f args _,.call c=>(match c.callee with | .value y=>ok f y | _=>false)&&okL ok (args.map (·.2)) c.args.toList
 | .callp g args _,.call c=>(match c.callee with | .value (.func f)=>Ae g==some f&&okF P f | _=>false)&&okL ok (args.map (·.2)) c.args.toList
 | _,_=>false
def U1:LG->Bool
 | .store .. =>true
 | .call _ args _=>args.any (·.1)
 | .callv _ args _=>args.any (·.1)
 | _=>false
section
variable {P:Program} {F:Fr} {β:Nat->Base} {own:Nat->Option (Nat×List Nat)} {H:Hp} {w w':World}
theorem Og {ok:Src->Operand->Bool}:∀ {ss:List Src} {xs:List Operand},okL ok ss xs=true->ss.length=xs.length/\∀(i:Nat) (s:Src) (x:Operand),ss[i]? =some s->xs[i]? =some x->ok s x=true
 | [],[],_=>by simp
 | [],_::_,h=>by cases h
 | _::_,[],h=>by cases h
 | s::r,x::t,h=>by
  simp only[okL,Bool.and_eq_true]at h
  obtain⟨h1,h2⟩:=Og h.2
  refine⟨by simp[h1],?_⟩
  intro i s' x' hs hx
  cases i with
  | zero=>simp at hs hx;subst hs;subst hx;exact h.1
  | succ i=>exact h2 i s' x' (by simpa using hs) (by simpa using hx)
theorem Ant {s:Sem Value} {x:Value} {w w':World} (h:s.run P w= .ok x w'):(do pure (.value (<-s)):Sem Next).run P w= .ok (.value x) w':=by
 rw[Sem.run_bind,h];rfl
theorem Kk {o:Oper} {a:Act} {next:Act->World->Prop} {Q:Exit->Act->World->Prop} {r:Result Next} {v:V} {u:DL} (h:Z8 F β own H w r v u)
 (hn:∀x w' β' own',(∀z y,VR F β own H w z y->VR F β' own' (Al H u) w' z y)->Inv F β' own' (Al H u) w'->VR F β' own' (Al H u) w' v x->next (a.put o.dst x) w'):o.upon P a next Q r:=by
 obtain⟨x,w',β',own',hr,h1,h2,h3⟩:=h
 rcases hr with hr | ⟨hr,hx⟩
 ·rw[hr];exact hn x w' β' own' h1 h2 h3
 ·rw[hr,Oper.upon_skip];subst hx;exact hn undef w' β' own' h1 h2 h3
theorem OJ {f:FuncId} (h:okF P f=true) (args:Array Value):(callFunc f args).run P w= .ok (.enter f args) w:=by
 unfold okF at h
 cases hf:P.funcs[f]? with
 | none=>simp[hf]at h
 | some fn=>
  simp only[hf,Bool.and_eq_true,bne_iff_ne,ne_eq]at h
  obtain⟨c,hc⟩:=Option.isSome_iff_exists.1 h.1
  have hname:(fn.name== "runtime.NumGoroutine")=false:=by simpa using h.2
  simp[callFunc,program,hf,hc,h.2,Sem.run,Result.andThen]
theorem MR {t:TypeId} (h:AbJ P t=true):P.underlying t=some .string:=by
 unfold AbJ at h;split at h
 ·assumption
 ·cases h
theorem AeO {t:TypeId} (h:Aeq P t=true):P.underlying t=some .bool:=by
 unfold Aeq at h;split at h
 ·assumption
 ·cases h
theorem AbA {t:TypeId} (h:Amv P t=true):∃e,P.underlying t=some (.slice e):=by
 unfold Amv at h;split at h
 ·exact⟨_,‹_›⟩
 ·cases h
theorem Aga {t:TypeId} {k:IntKind} (h:Ai5 P t k=true):P.underlying t=some (.int k):=by
 unfold Ai5 at h;split at h
 ·rename_i k' hk
  have:k=k':=by simpa using h
  rw[this];exact hk
 ·cases h
theorem Dg {o:Oper} {a:Act} {next:Act->World->Prop} {Q:Exit->Act->World->Prop} {s:Sem Value} {v:V} (inv:Inv F β own H w)
 (h:∃x,s.run P w= .ok x w/\VR F β own H w v x)
 (hn:∀x w' β' own',(∀z y,VR F β own H w z y->VR F β' own' (Al H []) w' z y)->Inv F β' own' (Al H []) w'->VR F β' own' (Al H []) w' v x->next (a.put o.dst x) w'):
 o.upon P a next Q ((do pure (.value (<-s)):Sem Next).run P w):=by
 obtain⟨x,h1,h2⟩:=h
 rw[Ant h1]
 exact hn x w β own (fun _ _ h=>h) inv h2
theorem DI {vo:Option V} {K:V->DL->Prop} (h:LZ (noU vo) K):∃v,vo=some v/\K v []:=by
 cases vo with
 | none=>exact h.elim
 | some v=>exact⟨v,rfl,h⟩
theorem IC {r:Option (V×DL)} {K:V->DL->Prop} (h:LZ r K):∃v u,r=some (v,u)/\K v u:=by
 cases r with
 | none=>exact h.elim
 | some p=>exact⟨p.1,p.2,rfl,h⟩
theorem Ala {ρc ρa ρb:Value} {vc va vb v:V} (hc:VR F β own H w vc ρc) (ha:VR F β own H w va ρa) (hb:VR F β own H w vb ρb) (h:AjK vc va vb=some v):
 ∃x,(do pure (.value (if<-asBool ρc then ρa else ρb)):Sem Next).run P w= .ok (.value x) w/\VR F β own H w v x:=by
 unfold AjK at h
 split at h
 ·have:=JE hc;subst this
  cases h
  rename_i t
  cases t
  ·exact⟨ρb,by simp[asBool],by simpa using hb⟩
  ·exact⟨ρa,by simp[asBool],by simpa using ha⟩
 ·cases h
theorem AjT {ok:Src->Operand->Bool} {ev:Src->V} {ρ:Operand->Value} (hok:∀s x,ok s x=true->VR F β own H w (ev s) (ρ x)) {ss:List Src} {xs:List Operand} (h:okL ok ss xs=true):
 Pw (VR F β own H w) (ss.map ev) (xs.map ρ):=by
 obtain⟨h1,h2⟩:=Og h
 refine⟨by simp[h1],?_⟩
 intro i v x hv hx
 simp only[List.getElem?_map,Option.map_eq_some_iff]at hv hx
 obtain⟨s,hs,rfl⟩:=hv
 obtain⟨y,hy,rfl⟩:=hx
 exact hok s y (h2 i s y hs hy)
theorem Ur {Hm:Hp}:∀ {args:List (Bool×V)} {n:Nat} {ks:List Nat},Gi Hm n args=some ks->args.any (·.1)=false->ks=[]
 | [],_,_,h,_=>by cases h;rfl
 | (true,v)::r,_,_,_,ha=>by simp at ha
 | (false,v)::r,n,ks,h,ha=>by
  simp only[Gi]at h
  exact Ur h (by simpa using ha)
theorem AdQ (inv:Inv F β own H w) {Hm:Hp} (hm:∀k,Hm k=H k∨Hm k= .dead) {c:Cf} (hcb:c.bor=F.bor) (hct:c.takes=F.takes) {D:Dn}
 (hD:∀g a gi r o,D g a gi r o->Den P F.Ae F.G g a gi r o) {args:List (Bool×V)} (htk:args.any (·.1)=true->∀s,s∈F.takes->Hm s=H s) {g f:Nat} (hf:F.Ae g=some f) {K:V->DL->Prop} {sites:List Nat}
 (hs:EX D c Hm K g args sites) {xs:List Value} (hv:Pw (VR F β own H w) (args.map (·.2)) xs) {o:Oper} {a:Act} {next:Act->World->Prop} {Q:Exit->Act->World->Prop}
 (hn:∀v u x w' β' own',K v u->(∀z y,VR F β own H w z y->VR F β' own' (Al H u) w' z y)->Inv F β' own' (Al H u) w'->VR F β' own' (Al H u) w' v x->next (a.put o.dst x) w'):
 o.upon P a next Q (.ok (.enter f xs.toArray) w):=by
 unfold EX at hs
 split at hs
 ·exact hs.elim
 rename_i ks hks
 split at hs
 ·exact hs.elim
 rename_i hcok
 split at hs
 ·exact hs.elim
 rename_i args' hca
 obtain⟨res,outs,hd,hs⟩:=hs
 split at hs
 ·rename_i u v u' ss' hb hi
  rw[Oper.upon_enter]
  refine(Aot inv hm hcb hct (fun hne=>htk (by cases hb2:args.any (·.1)with | true=>rfl | false=>exact absurd (Ur hks hb2) hne)) hv hks (by simpa using hcok) hca hf (hD _ _ _ _ _ hd) hb hi).mono ?_
  intro e w' he
  cases e with
  | returned x=>
   obtain⟨β',own',h1,h2,h3⟩:=he
   exact hn v (u++u') x w' β' own' hs h1 h2 h3
  | panicked _=>exact he.elim
  | outgrown=>exact he.elim
 ·exact hs.elim
theorem Ah5 (inv:Inv F β own H w) {Hm:Hp} (hm:∀k,Hm k=H k∨Hm k= .dead) {t:List Nat} {D:Dn}
 (hD:∀g a gi r o,D g a gi r o->Den P F.Ae F.G g a gi r o) {args:List (Bool×V)} {g f:Nat} (hf:F.Ae g=some f) {K:V->DL->Prop} {sites:List Nat}
 (hs:EX D ⟨true,t⟩ Hm K g args sites) {xs:List Value} (hv:Pw (VR F β own H w) (args.map (·.2)) xs) {o:Oper} {a:Act} {next:Act->World->Prop} {Q:Exit->Act->World->Prop}
 (hn:∀v u x w' β' own',K v u->(∀z y,VR F β own H w z y->VR F β' own' (Al H u) w' z y)->Inv F β' own' (Al H u) w'->VR F β' own' (Al H u) w' v x->next (a.put o.dst x) w'):
 o.upon P a next Q (.ok (.enter f xs.toArray) w):=by
 unfold EX at hs
 split at hs
 ·exact hs.elim
 rename_i ks hks
 split at hs
 ·exact hs.elim
 rename_i hcok
 split at hs
 ·exact hs.elim
 rename_i args' hca
 obtain⟨res,outs,hd,hs⟩:=hs
 split at hs
 ·rename_i u v u' ss' hb hi
  rw[Oper.upon_enter]
  refine(AnO inv hm hv hks (by simpa using hcok) hca hf (hD _ _ _ _ _ hd) hb hi).mono ?_
  intro e w' he
  cases e with
  | returned x=>
   obtain⟨β',own',h1,h2,h3⟩:=he
   exact hn v (u++u') x w' β' own' hs h1 h2 h3
  | panicked _=>exact he.elim
  | outgrown=>exact he.elim
 ·exact hs.elim
theorem AfU (inv:Inv F β own H w) {Hm:Hp} (hm:∀k,Hm k=H k∨Hm k= .dead) {c:Cf} (hcb:c.bor=F.bor) (hct:c.takes=F.takes) {D:Dn}
 (hD:∀g a gi r o,D g a gi r o->Den P F.Ae F.G g a gi r o) (hF:∀g f,F.Ae g=some f->okF P f=true) {ok:Src->Operand->Bool} {ev:Src->V} {o:Oper} {a:Act}
 (hok:∀s x,ok s x=true->VR F β own H w (ev s) (a.eval x)) {op:LG} (htk:U1 op=true->∀s,s∈F.takes->Hm s=H s) (hmo:mOp P F.Ae c.takes ok op o.op=true) {K:V->DL->Prop}
 (hs:stepW D c Hm ev op K) {next:Act->World->Prop} {Q:Exit->Act->World->Prop}
 (hn:∀v u x w' β' own',K v u->(∀z y,VR F β own H w z y->VR F β' own' (Al H u) w' z y)->Inv F β' own' (Al H u) w'->VR F β' own' (Al H u) w' v x->next (a.put o.dst x) w'):
 o.wp P a w next Q:=by
 obtain⟨dst,oo,ty,pos,after,guard⟩:=o
 dsimp only at hmo hn
 have go:∀ {v:V} {u:DL},K v u->∀x w' β' own',(∀z y,VR F β own H w z y->VR F β' own' (Al H u) w' z y)->Inv F β' own' (Al H u) w'->VR F β' own' (Al H u) w' v x->next (a.put dst x) w':=
  fun hk x w' β' own' h1 h2 h3=>hn _ _ x w' β' own' hk h1 h2 h3
 unfold Oper.wp
 unfold mOp at hmo
 split at hmo
 ·
  exact go hs _ w β own (fun _ _ h=>h) inv (hok _ _ hmo)
 ·exact go hs _ w β own (fun _ _ h=>h) inv (hok _ _ hmo)
 ·
  simp only[Bool.and_eq_true]at hmo
  obtain⟨v,h1,hk⟩:=DI hs
  obtain⟨x,h3,h4⟩:=Ala (P:=P) (hok _ _ hmo.1.1) (hok _ _ hmo.1.2) (hok _ _ hmo.2) h1
  show Oper.upon P _ a next Q (Sem.run P (do pure (.value (if<-asBool _ then _ else _)):Sem Next) w)
  rw[h3]
  exact go hk x w β own (fun _ _ h=>h) inv h4
 ·
  rename_i kk zero t
  obtain⟨z,hz1,hz2,hz3⟩:=Aa6 (F:=F) (β:=β) (own:=own) (H:=H) (w:=w) hmo
  obtain⟨v,u,h1,hk⟩:=IC hs
  refine Kk (AjW inv hm h1 (x:=z) (fun cs hcs=>by cases hcs;exact⟨hz2,hz3⟩) (et:=t) ?_) (go hk)
  show((do pure (.value (<-Instr.alloc t true (.tuple #[]))):Sem Next).run P w)=_
  refine Ant ?_
  simp only[Instr.alloc,Sem.run_bind,hz1,Result.andThen_ok,newVar,newRow]
  simp[newObj,Sem.run]
 ·
  rename_i kk x t y
  obtain⟨v,u,h1,hk⟩:=IC hs
  refine Kk (AjW inv hm h1 (x:=a.eval y) (fun cs hcs=>PL (hok _ _ hmo) hcs) (et:=t) ?_) (go hk)
  show((do pure (.value (<-Instr.box t (a.eval y))):Sem Next).run P w)=_
  refine Ant ?_
  simp[Instr.box,newVar,newRow,newObj,Sem.run]
 ·
  simp only[Bool.and_eq_true]at hmo
  obtain⟨v,h1,hk⟩:=DI hs
  split at h1
  ·rename_i cs hcs
   cases h1
   obtain⟨g1,g2⟩:=Og hmo.2
   refine Dg inv (Amx hmo.1.1.1 hmo.1.1.2 hmo.1.2 (fun j p q hp hq=>hok _ _ (g2 j _ _ (by simp[hp]) (by simp[hq]))) hcs) (go hk)
  ·cases h1
 ·
  rename_i kk e len ps t len' qs
  simp only[Bool.and_eq_true,beq_iff_eq,AoP,decide_eq_true_eq]at hmo
  obtain⟨⟨⟨⟨hl,hl2⟩,⟨hb1,hb2⟩,hb3⟩,hr⟩,ho⟩:=hmo
  subst hl
  obtain⟨v,u,h1,hk⟩:=IC hs
  obtain⟨g1,g2⟩:=Og ho
  refine Kk (Acn inv hm hb1 hb2 hl2 ?_ hr (by simpa using g1) (fun j s q hs hq=>hok _ _ (g2 j _ _ hs (by simp[hq]))) h1) (go hk)
  intro et het
  rw[het]at hb3
  simp only at hb3
  split at hb3
  ·rename_i z hz
   exact⟨z,hz,by simpa using hb3⟩
  ·cases hb3
 ·
  rename_i kv kk e len ps t len' qs
  simp only[Bool.and_eq_true,beq_iff_eq,AoP,decide_eq_true_eq]at hmo
  obtain⟨⟨⟨⟨hl,hl2⟩,⟨hb1,hb2⟩,hb3⟩,hr⟩,ho⟩:=hmo
  subst hl
  obtain⟨v,u,h1,hk⟩:=IC hs
  have h1':Ahp c.bor Hm _ _ _ _ _ _=some (v,u):=h1
  rw[hcb]at h1'
  obtain⟨g1,g2⟩:=Og ho
  refine Kk (An2 (F:=F) inv hm hb1 hb2 hl2 ?_ hr (by simpa using g1) (fun j s q hs hq=>hok _ _ (g2 j _ _ hs (by simp[hq]))) h1') (go hk)
  intro et het
  rw[het]at hb3
  simp only at hb3
  split at hb3
  ·rename_i z hz
   exact⟨z,hz,by simpa using hb3⟩
  ·cases hb3
 ·
  simp only[Bool.and_eq_true]at hmo
  obtain⟨v,h1,hk⟩:=DI hs
  rw[hcb]at h1
  exact Dg inv (AjB inv hm hmo.1 (hok _ _ hmo.2) h1) (go hk)
 ·
  simp only[Bool.and_eq_true,List.contains_iff_mem]at hmo
  obtain⟨v,u,h1,hk⟩:=IC hs
  have h1':Agr c.bor Hm _ _=some (v,u):=h1
  rw[hcb]at h1'
  exact Kk (An5 inv hm hmo.1.1 (by rw[<-hct];exact hmo.1.2) (hok _ _ hmo.2) h1') (go hk)
 ·
  rename_i n x vv t y z
  simp only[Bool.and_eq_true,beq_iff_eq]at hmo
  obtain⟨v,u,h1,hk⟩:=IC hs
  have h1':(match ZU c.takes Hm n (ev x) (ev vv)with | some u=>some (V.undef,u) | none=>none)=some (v,u):=h1
  split at h1'
  ·rename_i u' hu'
   cases h1'
   exact Kk (Anz inv hm hct.symm (fun s hs=>htk rfl s (by rw[<-hct];exact hs)) hmo.1.1 (hok _ _ hmo.1.2) (hok _ _ hmo.2) hu') (go hk)
  ·cases h1'
 ·
  simp only[Bool.and_eq_true,beq_iff_eq]at hmo
  obtain⟨v,h1,hk⟩:=DI hs
  rw[hmo.1.1]at h1
  exact Dg inv (Aqk (hok _ _ hmo.1.2) (hok _ _ hmo.2) h1) (go hk)
 ·
  rename_i ne x y op' t x' y' yt
  simp only[Bool.and_eq_true,beq_iff_eq]at hmo
  obtain⟨v,h1,hk⟩:=DI hs
  rw[hmo.1.1.1]
  exact Dg inv (Aqn (AeO hmo.1.1.2) (hok _ _ hmo.1.2) (hok _ _ hmo.2) h1) (go hk)
 ·
  simp only[Bool.and_eq_true,beq_iff_eq]at hmo
  obtain⟨v,h1,hk⟩:=DI hs
  rw[hmo.1]at h1
  exact Dg inv (Arw (hok _ _ hmo.2) h1) (go hk)
 ·
  simp only[Bool.and_eq_true]at hmo
  obtain⟨v,h1,hk⟩:=DI hs
  exact Dg inv (Aop (Option.isSome_iff_exists.1 hmo.1.1) (Aga hmo.1.2) (hok _ _ hmo.2) h1) (go hk)
 ·
  simp only[Bool.and_eq_true]at hmo
  obtain⟨v,h1,hk⟩:=DI hs
  exact Dg inv (Aom inv hm hmo.1 (hok _ _ hmo.2) h1) (go hk)
 ·
  rename_i str x c'
  obtain⟨callee,args,argTypes⟩:=c'
  simp only[Bool.and_eq_true]at hmo
  obtain⟨hc,hmo⟩:=hmo
  split at hc
  rotate_left
  ·cases hc
  split at hmo
  rotate_left
  ·cases hmo
  rename_i y t hargs hty
  simp only[Bool.and_eq_true]at hmo
  obtain⟨v,u,h1,hk⟩:=IC hs
  have h1':(match Ajw str Hm (ev x)with | some n=>some (V.sc (.int .i64 n),[]) | none=>none)=some (v,u):=h1
  split at h1'
  rotate_left
  ·cases h1'
  rename_i n hn'
  cases h1'
  unfold Ajw at hn'
  split at hn'
  rotate_left
  ·cases hn'
  rename_i hstr
  have ha:args.map a.eval= #[a.eval y]:=by
   apply Array.ext'
   simp[hargs]
  show Oper.upon P _ a next Q ((do pure (.value (<-Builtin.len_ argTypes ty (args.map a.eval))):Sem Next).run P w)
  rw[ha]
  have hiff:(∃s,ev x= .sc (.string s))↔str=true:=by
   rw[<-hstr]
   unfold isStr
   split
   ·rename_i hh;simp[hh]
   ·rename_i hh;simp;intro s hs;exact hh s hs
  refine Dg inv ⟨.int .i64 n,Aqc hm hty ?_ (hok _ _ hmo.2) hn' ?_,.sc rfl⟩ (go hk)
  ·by_cases hb:str=true
   ·rw[if_pos hb]at hmo;exact .inl (MR hmo.1)
   ·rw[if_neg hb]at hmo;exact .inr (AbA hmo.1)
  ·rw[hiff]
   by_cases hb:str=true
   ·rw[if_pos hb]at hmo;simp[hb,MR hmo.1]
   ·rw[if_neg hb]at hmo
    obtain⟨e,he⟩:=AbA hmo.1
    simp[hb,he]
 ·
  rename_i mx x r c'
  obtain⟨callee,args,argTypes⟩:=c'
  simp only[Bool.and_eq_true]at hmo
  obtain⟨hc,hmo⟩:=hmo
  obtain⟨v,h1,hk⟩:=DI hs
  obtain⟨g1,g2⟩:=Og hmo
  obtain⟨y,ys,hys⟩:∃y ys,args.toList=y::ys:=by
   cases hh:args.toList with
   | nil=>rw[hh]at g1;simp at g1
   | cons y ys=>exact⟨y,ys,rfl⟩
  rw[hys]at g1 g2
  have hfold:=Alp (P:=P) (ev:=ev) (ys:=r) (bs:=ys.map a.eval) (hok _ _ (g2 0 x y (by simp) (by simp))) (by simpa using g1) (fun i s z hs hz=>by
   simp only[List.getElem?_map,Option.map_eq_some_iff]at hz
   obtain⟨q,hq,rfl⟩:=hz
   exact hok _ _ (g2 (i+1) s q (by simpa using hs) (by simpa using hq))) h1
  split at hc
  ·have hmx:mx=true:=hc
   subst hmx
   show Oper.upon P _ a next Q ((do pure (.value (<-Builtin.max_ argTypes ty (args.map a.eval))):Sem Next).run P w)
   refine Dg inv ?_ (go hk)
   simp only[Builtin.max_,Array.toList_map,hys,List.map_cons]
   exact hfold
  ·have hmx:mx=false:=by simpa using hc
   subst hmx
   show Oper.upon P _ a next Q ((do pure (.value (<-Builtin.min_ argTypes ty (args.map a.eval))):Sem Next).run P w)
   refine Dg inv ?_ (go hk)
   simp only[Builtin.min_,Array.toList_map,hys,List.map_cons]
   exact hfold
  ·cases hc
 ·
  rename_i kk e b mv x y c'
  obtain⟨callee,args,argTypes⟩:=c'
  simp only[Bool.and_eq_true]at hmo
  obtain⟨hc,hmo⟩:=hmo
  split at hc
  rotate_left
  ·cases hc
  split at hmo
  rotate_left
  ·cases hmo
  rename_i x' y' t t2 hargs hty
  simp only[Bool.and_eq_true]at hmo
  obtain⟨v,u,h1,hk⟩:=IC hs
  have ha:args.map a.eval= #[a.eval x',a.eval y']:=by
   apply Array.ext'
   simp[hargs]
  have ht:argTypes= #[t,t2]:=by
   apply Array.ext'
   simpa using hty
  show Oper.upon P _ a next Q ((do pure (.value (<-Builtin.append_ argTypes ty (args.map a.eval))):Sem Next).run P w)
  rw[ha,ht]
  exact Kk (AlO inv hm hmo.1.1.1 hmo.1.1.2 (hok _ _ hmo.1.2) (hok _ _ hmo.2) h1) (go hk)
 ·
  rename_i e x lo hi t y lo' hi' mx
  simp only[Bool.and_eq_true,Option.isNone_iff_eq_none]at hmo
  obtain⟨⟨⟨⟨hmx,ht⟩,hx⟩,hlo⟩,hhi⟩:=hmo
  subst hmx
  have key:∃l h v,(match lo with | none=>l=0 | some s=>Yp (ev s)=some l)/\(match hi,h with | none,none=>True | some s,some h=>Yp (ev s)=some h | _,_=>False)/\
   Pn Hm e (ev x) (some l) h=some v/\K v []:=by
   have hs':LZ (match lo.map (fun s=>Yp (ev s)),hi.map (fun s=>Yp (ev s))with
    | some none,_=>none
    | _,some none=>none
    | l,h=>noU (Pn Hm e (ev x) (l.getD (some 0)) (h.getD none))) K:=hs
   cases lo with
   | none=>
    cases hi with
    | none=>
     obtain⟨v,h1,hk⟩:=DI (vo:=Pn Hm e (ev x) (some 0) none) hs'
     exact⟨0,none,v,rfl,trivial,h1,hk⟩
    | some s=>
     cases hh:Yp (ev s)with
     | none=>simp only[Option.map_none,Option.map_some,hh]at hs';exact hs'.elim
     | some h=>
      simp only[Option.map_none,Option.map_some,hh]at hs'
      obtain⟨v,h1,hk⟩:=DI hs'
      exact⟨0,some h,v,rfl,hh,h1,hk⟩
   | some sl=>
    cases hl:Yp (ev sl)with
    | none=>simp only[Option.map_some,hl]at hs';exact hs'.elim
    | some l=>
     cases hi with
     | none=>
      simp only[Option.map_none,Option.map_some,hl]at hs'
      obtain⟨v,h1,hk⟩:=DI hs'
      exact⟨l,none,v,hl,trivial,h1,hk⟩
     | some s=>
      cases hh:Yp (ev s)with
      | none=>simp only[Option.map_some,hl,hh]at hs';exact hs'.elim
      | some h=>
       simp only[Option.map_some,hl,hh]at hs'
       obtain⟨v,h1,hk⟩:=DI hs'
       exact⟨l,some h,v,hl,hh,h1,hk⟩
  obtain⟨l,h,v,hl,hh,h1,hk⟩:=key
  unfold Pn at h1
  split at h1
  rotate_left
  ·cases h1
  rename_i hstr
  have hiff:(∃s,ev x= .sc (.string s))↔isStr (ev x)=true:=by
   unfold isStr
   split
   ·rename_i hh;simp[hh]
   ·rename_i hh;simp;intro s hs;exact hh s hs
  refine Dg (s:=Instr.sliceAt t (a.eval y) (lo'.map a.eval) (hi'.map a.eval) none) inv (AnH inv hm (e:=e) (l:=l) (h:=h) ?_ ?_ ?_ ?_ (hok _ _ hx) h1) (go hk)
  ·intro hh2
   rw[hiff,hstr]at hh2
   have he:e=0:=by simpa using hh2
   rw[if_pos he]at ht
   exact MR ht
  ·intro hh2
   rw[hiff,hstr]at hh2
   have he:e≠0:=by simpa using hh2
   rw[if_neg he]at ht
   exact ht
  ·cases lo with
   | none=>cases lo' with
    | none=>exact hl
    | some _=>cases hlo
   | some s=>cases lo' with
    | none=>cases hlo
    | some q=>exact RX (hok _ _ hlo) hl
  ·cases hi with
   | none=>cases hi' with
    | none=>cases h with
     | none=>trivial
     | some _=>exact hh.elim
    | some _=>cases hhi
   | some s=>cases hi' with
    | none=>cases hhi
    | some q=>cases h with
     | none=>exact hh.elim
     | some hv=>exact RX (hok _ _ hhi) hh
 ·
  simp only[Bool.and_eq_true]at hmo
  obtain⟨v,h1,hk⟩:=DI hs
  exact Dg inv (AeX hmo.1 (hok _ _ hmo.2) h1) (go hk)
 ·
  rename_i x off y
  simp only[Bool.and_eq_true,beq_iff_eq]at hmo
  obtain⟨h0,hx⟩:=hmo
  subst h0
  obtain⟨v,h1,hk⟩:=DI hs
  obtain⟨⟨ad,he⟩,h2⟩:=Ao9 (hok _ _ hx) h1
  rw[he]at h2
  simp only[execOp,he]
  exact go hk _ w β own (fun _ _ h=>h) inv h2
 ·
  rename_i e x i t y j
  simp only[Bool.and_eq_true]at hmo
  have hs':LZ (match Yp (ev i)with | some i=>noU (Gu Hm e (ev x) i) | none=>none) K:=hs
  split at hs'
  ·rename_i ii hii
   obtain⟨v,h1,hk⟩:=DI hs'
   exact Dg inv (Afe inv hm hmo.1.1 (hok _ _ hmo.1.2) (hok _ _ hmo.2) hii h1) (go hk)
  ·exact hs'.elim
 ·
  rename_i x i t y j
  simp only[Bool.and_eq_true]at hmo
  have hs':LZ (match Yp (ev i)with | some i=>noU (PW (ev x) i) | none=>none) K:=hs
  split at hs'
  ·rename_i ii hii
   obtain⟨v,h1,hk⟩:=DI hs'
   exact Dg inv (Ak2 (MR hmo.1.1) (hok _ _ hmo.1.2) (hok _ _ hmo.2) hii h1) (go hk)
  ·exact hs'.elim
 ·
  rename_i n e x i t y j
  simp only[Bool.and_eq_true]at hmo
  have hs':LZ (match Yp (ev i)with | some i=>noU (Vv n e (ev x) i) | none=>none) K:=hs
  split at hs'
  ·rename_i ii hii
   obtain⟨v,h1,hk⟩:=DI hs'
   exact Dg inv (Alo hmo.1.1 (hok _ _ hmo.1.2) (hok _ _ hmo.2) hii h1) (go hk)
  ·exact hs'.elim
 ·
  simp only[Bool.and_eq_true]at hmo
  obtain⟨v,h1,hk⟩:=DI hs
  exact Dg inv (AnS hmo.1 (hok _ _ hmo.2) h1) (go hk)
 ·
  rename_i x i y j
  simp only[Bool.and_eq_true,beq_iff_eq]at hmo
  obtain⟨v,h1,hk⟩:=DI hs
  rw[<-hmo.1]
  exact Dg inv (AiR (hok _ _ hmo.2) h1) (go hk)
 ·
  rename_i kk e b zero n t l cc
  simp only[Bool.and_eq_true]at hmo
  have hs':LZ (match Yp (ev n)with | some n=>Me Hm kk e b zero n | none=>none) K:=hs
  split at hs'
  ·rename_i ni hni
   obtain⟨v,u,h1,hk⟩:=IC hs'
   have hcc:a.eval cc=a.eval l:=by
    have h2:=hmo.2
    split at h2
    ·have:_=_:=beq_iff_eq.1 h2
     rw[this]
    ·simp only[Bool.and_eq_true,beq_iff_eq]at h2
     rw[h2.1,h2.2]
    ·cases h2
   show Oper.upon P _ a next Q ((do pure (.value (<-Instr.makeSlice t (a.eval l) (a.eval cc))):Sem Next).run P w)
   rw[hcc]
   exact Kk (Afp inv hm hmo.1.1 (hok _ _ hmo.1.2) hni h1) (go hk)
  ·exact hs'.elim
 ·
  rename_i g caps fn first captured
  simp only[Bool.and_eq_true,Array.isEmpty_iff]at hmo
  obtain⟨⟨hf,hfi⟩,hc⟩:=hmo
  subst hfi
  split at hf
  rotate_left
  ·cases hf
  rename_i f
  simp only[Bool.and_eq_true,beq_iff_eq]at hf
  have hk:K (.fn g (caps.map ev)) []:=hs
  have hp:=AjT (F:=F) (β:=β) (own:=own) (H:=H) (w:=w) hok hc
  show Oper.upon P _ a next Q ((do pure (.value (<-Instr.makeFunc (.func f) ((#[]:Array Operand).map a.eval) (captured.map a.eval))):Sem Next).run P w)
  refine Dg inv ⟨_,rfl,?_⟩ (go hk)
  have:=VR.fn (β:=β) (own:=own) (H:=H) (w:=w) hf.1 hp.1 hp.2
  have hcap:captured.map a.eval=(captured.toList.map a.eval).toArray:=by
   apply Array.ext';simp
  simpa[hcap]using this
 ·
  rename_i g args sites c'
  obtain⟨callee,cargs,argTypes⟩:=c'
  simp only[Bool.and_eq_true]at hmo
  obtain⟨hf,ha⟩:=hmo
  split at hf
  rotate_left
  ·cases hf
  rename_i f
  simp only[Bool.and_eq_true,beq_iff_eq]at hf
  have hp:=AjT (F:=F) (β:=β) (own:=own) (H:=H) (w:=w) hok ha
  have hr:(execOp a.eval ⟨dst,.call ⟨.value (.func f),cargs,argTypes⟩,ty,pos,after,guard⟩).run P w= .ok (.enter f (cargs.toList.map a.eval).toArray) w:=by
   have h1:=OJ (w:=w) hf.2 (cargs.toList.map a.eval).toArray
   rw[<-h1]
   show(callFunc f (#[]++cargs.map a.eval++ #[])).run P w=_
   congr 2
   apply Array.ext';simp
  rw[hr]
  exact AdQ inv hm hcb hct hD (fun hh=>htk (by simpa[U1,List.any_map,Function.comp_def]using hh)) hf.1 hs (by simpa[Function.comp_def]using hp) hn
 ·
  rename_i f args sites c'
  obtain⟨callee,cargs,argTypes⟩:=c'
  simp only[Bool.and_eq_true]at hmo
  obtain⟨hf,ha⟩:=hmo
  split at hf
  rotate_left
  ·cases hf
  rename_i y
  have hfv:=hok _ _ hf
  have hp:=AjT (F:=F) (β:=β) (own:=own) (H:=H) (w:=w) hok ha
  have hs':(match ev f with | .fn g caps=>EX D c Hm K g ((args.map fun(b,x)=>(b,ev x))++caps.map fun v=>(false,v)) sites | _=>False):=hs
  split at hs'
  ·rename_i g caps hev
   rw[hev]at hfv
   generalize hy:a.eval y=yv at hfv
   cases hfv with
   | @fn _ _ fi vs hfid hvl hvc=>
    have hr:(execOp a.eval ⟨dst,.call ⟨.value y,cargs,argTypes⟩,ty,pos,after,guard⟩).run P w= .ok (.enter fi (cargs.toList.map a.eval++vs).toArray) w:=by
     have h1:=OJ (w:=w) (hF _ _ hfid) (cargs.toList.map a.eval++vs).toArray
     rw[<-h1]
     show(do let d<-Deferred.ofValue (a.eval y) (cargs.map a.eval);invoke d.target d.args:Sem Next).run P w=_
     rw[hy]
     show(callFunc fi (#[]++cargs.map a.eval++vs.toArray)).run P w=_
     congr 2
     apply Array.ext';simp
    rw[hr]
    refine AdQ inv hm hcb hct hD (fun hh=>htk (by simpa[U1,List.any_map,Function.comp_def]using hh)) hfid hs' ?_ hn
    have hp2:Pw (VR F β own H w) caps vs:=⟨hvl,hvc⟩
    have:=hp.append hp2
    simpa[Function.comp_def]using this
  ·exact hs'.elim
 ·
  rename_i g args sites c'
  obtain⟨callee,cargs,argTypes⟩:=c'
  simp only[Bool.and_eq_true]at hmo
  obtain⟨hf,ha⟩:=hmo
  split at hf
  rotate_left
  ·cases hf
  rename_i f
  simp only[Bool.and_eq_true,beq_iff_eq]at hf
  have hp:=AjT (F:=F) (β:=β) (own:=own) (H:=H) (w:=w) hok ha
  have hr:(execOp a.eval ⟨dst,.call ⟨.value (.func f),cargs,argTypes⟩,ty,pos,after,guard⟩).run P w= .ok (.enter f (cargs.toList.map a.eval).toArray) w:=by
   have h1:=OJ (w:=w) hf.2 (cargs.toList.map a.eval).toArray
   rw[<-h1]
   show(callFunc f (#[]++cargs.map a.eval++ #[])).run P w=_
   congr 2
   apply Array.ext';simp
  rw[hr]
  exact Ah5 inv hm hD hf.1 hs (by simpa[Function.comp_def]using hp) hn
 ·cases hmo
end
end Go.Eng
namespace Go.Eng
set_option linter.unusedVariables false
def okS (Ae:Nat->Option FuncId) (st:List Tmp) (dsts:List (Option Tmp)) (anc:Nat->Nat->Bool) (q:Nat):Src->Operand->Bool
 | .loc j,.tmp t=>anc q j&&dsts[j]? ==some (some t)
 | .slot i,.tmp t=>st[i]? ==some t&&(List.range dsts.length).all fun j=>dsts[j]? !=some (some t)||j==q||anc j q
 | .con v,.const x=>cV Ae v x
 | .con v,.func f=>cV Ae v (.func (.func f) #[] #[])
 | _,_=>false
theorem Aoz (H:List O) (k:Nat) (o:O) (j:Nat):hp (Aa0 H k o) j=if j=k then o else hp H j:=by
 induction H generalizing k j with
 | nil=>
  induction k generalizing j with
  | zero=>cases j<;>simp[Aa0,hp]
  | succ k ih=>
   cases j with
   | zero=>simp[Aa0,hp]
   | succ j=>
    have:=ih j
    simp only[Aa0,hp,List.getD_cons_succ]at this⊢
    rw[this]
    simp
 | cons a r ih=>
  cases k with
  | zero=>cases j<;>simp[Aa0,hp]
  | succ k=>
   cases j with
   | zero=>simp[Aa0,hp]
   | succ j=>
    have:=ih k j
    simp only[Aa0,hp,List.getD_cons_succ]at this⊢
    rw[this]
    simp
theorem AjC (u:DL):∀(H:List O),hp (Si H u)=Al (hp H) u:=by
 induction u with
 | nil=>intro H;rfl
 | cons a u ih=>
  intro H
  obtain⟨k,o⟩:=a
  simp only[Si,Al]
  rw[ih]
  congr 1
  funext j
  exact Aoz H k o j
theorem AgT (t:Option (List Nat)) (H:Hp) (k:Nat):masked t H k=H k∨masked t H k= .dead:=by
 unfold masked
 cases t with
 | none=>exact .inl rfl
 | some l=>
  dsimp only
  split
  ·exact .inl rfl
  ·exact .inr rfl
structure At (F:Fr) (st:List Tmp) (nt:Nat) (dsts:List (Option Tmp)) (env:List V) (β:Nat->Base) (own:Nat->Option (Nat×List Nat)) (vals:Nat->V) (S:Nat->Prop) (H:Hp) (a:Act) (w:World):Prop where
 inv:Inv F β own H w
 loc:∀j t,S j->dsts[j]? =some (some t)->VR F β own H w (vals j) (a.tmps.getD t undef)
 slot:∀i t,st[i]? =some t->(∀j,S j->dsts[j]? ≠some (some t))->VR F β own H w (env.getD i .undef) (a.tmps.getD t undef)
 nt:a.tmps.size=nt
 defers:a.defers=[]
section
variable {P:Program} {F:Fr} {β β':Nat->Base} {own own':Nat->Option (Nat×List Nat)} {H H':Hp} {w w':World} {st:List Tmp} {nt:Nat} {dsts:List (Option Tmp)} {env:List V} {vals:Nat->V} {S:Nat->Prop} {a:Act}
theorem AmU {a:Act} {d t:Nat} {x:Value} (hd:d<a.tmps.size):(a.put (some d) x).tmps.getD t undef=if t=d then x else a.tmps.getD t undef:=by
 simp only[Act.put,Array.getD_eq_getD_getElem?,Array.getElem?_setIfInBounds]
 by_cases h:d=t
 ·subst h;simp[hd]
 ·have h':t≠d:=fun e=>h e.symm
  simp[h,h']
theorem At.step (at_:At F st nt dsts env β own vals S H a w) (hp:∀z y,VR F β own H w z y->VR F β' own' H' w' z y) (inv:Inv F β' own' H' w') {q:Nat} {dst:Option Tmp} {v:V} {x:Value}
 (hv:VR F β' own' H' w' v x) (hdst:dsts[q]? =some dst) (hdis:∀j t,S j->dst=some t->dsts[j]? ≠some (some t)) (hlt:∀t,dst=some t->t<nt) {vals':Nat->V}
 (hvals:∀j,S j->vals' j=vals j) (hvq:vals' q=v) (hq:¬S q):At F st nt dsts env β' own' vals' (fun j=>S j∨j=q) H' (a.put dst x) w':=by
 have hget:∀t,(a.put dst x).tmps.getD t undef=if dst=some t then x else a.tmps.getD t undef:=by
  intro t
  cases dst with
  | none=>simp[Act.put]
  | some d=>
   rw[AmU (by rw[at_.nt];exact hlt d rfl)]
   by_cases h:t=d
   ·simp[h]
   ·have:d≠t:=fun e=>h e.symm
    simp[h,this]
 refine⟨inv,?_,?_,?_,?_⟩
 ·intro j t hj hd
  rw[hget]
  rcases hj with hj | hj
  ·have hne:dst≠some t:=fun h=>hdis j t hj h hd
   rw[if_neg hne,hvals j hj]
   exact hp _ _ (at_.loc j t hj hd)
  ·subst hj
   rw[hdst]at hd
   have:dst=some t:=by simpa using hd
   rw[if_pos this,hvq]
   exact hv
 ·intro i t hi hn
  rw[hget]
  have hne:dst≠some t:=fun h=>hn q (.inr rfl) (by rw[hdst,h])
  rw[if_neg hne]
  exact hp _ _ (at_.slot i t hi fun j hj=>hn j (.inl hj))
 ·rw[<-at_.nt]
  cases dst<;>simp[Act.put]
 ·rw[<-at_.defers]
  cases dst<;>simp[Act.put]
theorem At.ok (at_:At F st nt dsts env β own vals S H a w) {anc:Nat->Nat->Bool} {q:Nat} (hS:∀j,anc q j=true->S j) (hcl:∀j,S j->anc j q=false) (hq:¬S q) {ev:Src->V}
 (he1:∀j,S j->ev (.loc j)=vals j) (he2:∀i,ev (.slot i)=env.getD i .undef) (he3:∀v,ev (.con v)=v):
 ∀s x,okS F.Ae st dsts anc q s x=true->VR F β own H w (ev s) (a.eval x):=by
 intro s x h
 unfold okS at h
 split at h
 ·rename_i j t
  simp only[Bool.and_eq_true,beq_iff_eq]at h
  rw[he1 j (hS j h.1)]
  exact at_.loc j t (hS j h.1) h.2
 ·rename_i i t
  simp only[Bool.and_eq_true,beq_iff_eq,List.all_eq_true,List.mem_range,Bool.or_eq_true,bne_iff_ne,ne_eq]at h
  rw[he2]
  refine at_.slot i t h.1 fun j hj hd=> ?_
  have hlt:j<dsts.length:=(List.getElem?_eq_some_iff.1 hd).1
  rcases h.2 j hlt with(h1 | h1) | h1
  ·exact h1 hd
  ·exact hq (h1▸hj)
  ·rw[hcl j hj]at h1;cases h1
 ·rw[he3];exact Ams h
 ·rw[he3];exact Ams h
 ·cases h
structure AeY (P:Program) (F:Fr) (c:Cf) (st:List Tmp) (nt:Nat) (dsts:List (Option Tmp)) (anc:Nat->Nat->Bool) (q:Nat) (rop:I7) (o:Oper):Prop where
 op:mOp P F.Ae c.takes (okS F.Ae st dsts anc q) rop.op o.op=true
 guard:o.guard=rop.guard
 gin:∀j t,rop.guard=some (j,t)->anc q j=true/\∃d,dsts[j]? =some (some d)
 dst:dsts[q]? =some o.dst
 lt:∀t,o.dst=some t->t<nt
 tk:U1 rop.op=true->∀l,rop.tau=some l->∀s,s∈c.takes->s∈l
theorem U2 {ops:Array Oper} {o:Oper} {q:Nat} (at_:At F st nt dsts env β own vals S H a w) (hdd:∀j:Nat,dsts[j]? =(ops[j]?).map (·.dst)) {j:Nat} {t b:Bool} (hg:o.guard=some (j,t)) {d:Tmp}
 (hd:dsts[j]? =some (some d)) (hj:S j) (hv:vals j= .sc (.bool b)) (hlt:d<nt):Region.wanted o (yielded ops a.tmps)=(b==t):=by
 have h1:=at_.loc j d hj hd
 rw[hv]at h1
 have h2:=JE h1
 have h3:(ops[j]?).bind (·.dst)=some d:=by
  have:=hdd j
  rw[hd]at this
  cases ho:ops[j]? with
  | none=>rw[ho]at this;cases this
  | some o'=>rw[ho]at this;simp at this;simp[<-this]
 have h4:a.tmps[d]? =some (.bool b):=by
  rw[Array.getD_eq_getD_getElem?]at h2
  have hs:d<a.tmps.size:=by rw[at_.nt];exact hlt
  rw[Array.getElem?_eq_getElem hs]at h2⊢
  simpa using h2
 simp only[Region.wanted,hg,yielded,h3,Option.bind_some,h4]
 cases b<;>cases t<;>rfl
theorem XT {ops:Array Oper} {o:Oper} {q:Nat} (at_:At F st nt dsts env β own vals S H a w) (hdd:∀j:Nat,dsts[j]? =(ops[j]?).map (·.dst)) {j:Nat} {t:Bool} (hg:o.guard=some (j,t)) {d:Tmp}
 (hd:dsts[j]? =some (some d)) (hj:S j) (hv:vals j= .tup []) (hlt:d<nt):Region.wanted o (yielded ops a.tmps)=false:=by
 have h1:=at_.loc j d hj hd
 rw[hv]at h1
 have h2:a.tmps.getD d undef= .tuple #[]:=by
  generalize a.tmps.getD d undef=y at h1
  cases h1 with
  | tup hl hc=>
   rename_i vs
   have:vs=[]:=List.eq_nil_of_length_eq_zero (by simpa using hl)
   rw[this]
 have h3:(ops[j]?).bind (·.dst)=some d:=by
  have:=hdd j
  rw[hd]at this
  cases ho:ops[j]? with
  | none=>rw[ho]at this;cases this
  | some o'=>rw[ho]at this;simp at this;simp[<-this]
 have h4:a.tmps[d]? =some (.tuple #[]):=by
  rw[Array.getD_eq_getD_getElem?]at h2
  have hs:d<a.tmps.size:=by rw[at_.nt];exact hlt
  rw[Array.getElem?_eq_getElem hs]at h2⊢
  simpa using h2
 simp[Region.wanted,hg,yielded,h3,h4]
theorem ZH {F:Fr} {β:Nat->Base} {own:Nat->Option (Nat×List Nat)} {H:Hp} {w:World}:VR F β own H w (.tup []) undef:=
 VR.tup (cs:=[]) (vs:=[]) rfl (fun i v x h=>by simp at h)
end
end Go.Eng
namespace Go.Eng
def AfE (q j:Nat):Bool:=decide (j<q)
section
variable {P:Program} {F:Fr} {β β':Nat->Base} {own own':Nat->Option (Nat×List Nat)} {H H':Hp} {w w':World} {st:List Tmp} {nt:Nat} {dsts:List (Option Tmp)} {env:List V} {a:Act}
theorem AdI {t:Option (List Nat)} {H:Hp} {s:Nat} (h:∀l,t=some l->s∈l):masked t H s=H s:=by
 unfold masked
 cases t with
 | none=>rfl
 | some l=>dsimp only;rw[if_pos (by simpa using h l rfl)]
theorem Al5 (l:List V) (v:V) (j:Nat) (hj:j<l.length):(l++ [v]).getD j .undef=l.getD j .undef:=by
 simp[List.getD_eq_getElem?_getD,List.getElem?_append_left hj]
theorem Agd (l:List V) (v:V):(l++ [v]).getD l.length .undef=v:=by
 simp[List.getD_eq_getElem?_getD]
theorem run_text {c:Cf} (hcb:c.bor=F.bor) (hct:c.takes=F.takes) {D:Dn} (hD:∀g a gi r o,D g a gi r o->Den P F.Ae F.G g a gi r o) (hF:∀g f,F.Ae g=some f->okF P f=true)
 {ops:Array Oper} (hdd:∀j:Nat,dsts[j]? =(ops[j]?).map (·.dst)) (huniq:∀(i j:Nat) (t:Tmp),dsts[i]? =some (some t)->dsts[j]? =some (some t)->i=j)
 (hlt:∀(j:Nat) (t:Tmp),dsts[j]? =some (some t)->t<nt) {Qs:List V->List O->Prop} {Q:Exit->Act->World->Prop}
 (hQ:∀vals' HL' a' w' β' own',vals'.length=ops.size->Qs vals' HL'->At F st nt dsts env β' own' (fun j=>vals'.getD j .undef) (fun j=>j<ops.size) (hp HL') a' w'->Q .normal a' w'):
 ∀(rops:List I7) (valsL:List V) (HL:List O) (a:Act) (w:World) (β:Nat->Base) (own:Nat->Option (Nat×List Nat)),
  (∀(i:Nat) (rop:I7),rops[i]? =some rop->∃o,ops[valsL.length+i]? =some o/\AeY P F c st nt dsts AfE (valsL.length+i) rop o)->valsL.length+rops.length=ops.size->
  At F st nt dsts env β own (fun j=>valsL.getD j .undef) (fun j=>j<valsL.length) (hp HL) a w->Dk D c env rops valsL HL Qs->
  wpOps P ops Q (List.range' valsL.length rops.length) a w:=by
 intro rops
 induction rops with
 | nil=>
  intro valsL HL a w β own _ hl at_ hr
  have hlen:valsL.length=ops.size:=by simpa using hl
  exact hQ valsL HL a w β own hlen hr (by rw[<-hlen];exact at_)
 | cons rop rops ih=>
  intro valsL HL a w β own hstat hl at_ hr
  obtain⟨o,ho,so⟩:=hstat 0 rop (by simp)
  rw[Nat.add_zero]at ho so
  have hnext:∀ {v:V} {x:Value} {u:DL} {w':World} {β':Nat->Base} {own':Nat->Option (Nat×List Nat)},
   (∀z y,VR F β own (hp HL) w z y->VR F β' own' (Al (hp HL) u) w' z y)->Inv F β' own' (Al (hp HL) u) w'->VR F β' own' (Al (hp HL) u) w' v x->Dk D c env rops (valsL++ [v]) (Si HL u) Qs->
   wpOps P ops Q (List.range' (valsL.length+1) rops.length) (a.put o.dst x) w':=by
   intro v x u w' β' own' h1 h2 h3 h4
   have h5:=at_.step (q:=valsL.length) (dst:=o.dst) (v:=v) (x:=x) (vals':=fun j=>(valsL++ [v]).getD j .undef) h1 h2 h3 so.dst (fun j t hj hd hd2=>by
    have hd3:dsts[valsL.length]? =some (some t):=by rw[so.dst,hd]
    have h6:=huniq j valsL.length t hd2 hd3
    rw[h6]at hj
    exact absurd hj (Nat.lt_irrefl _)) so.lt (fun j hj=>Al5 valsL v j hj) (Agd valsL v) (Nat.lt_irrefl _)
   have:=ih (valsL++ [v]) (Si HL u) (a.put o.dst x) w' β' own' (fun i rop' hi=>by
    have:=hstat (i+1) rop' (by simpa using hi)
    rwa [show valsL.length+(i+1)=(valsL++ [v]).length+i by simp;omega]at this) (by simp at hl⊢;omega) (by
    rw[AjC]
    refine⟨h5.inv,fun j t hj hd=>h5.loc j t ?_ hd,fun i t hi hn=>h5.slot i t hi fun j hj=>hn j ?_,h5.nt,h5.defers⟩
    ·simp at hj;omega
    ·simp;omega) h4
   simpa using this
  have hopS:stepW D c (masked rop.tau (hp HL)) (evs valsL env) rop.op (fun v u=>okU rop.tau rop.om (hp HL) u=true/\Dk D c env rops (valsL++ [v]) (Si HL u) Qs)->
   o.wp P a w (wpOps P ops Q (List.range' (valsL.length+1) rops.length)) Q:=by
   intro hs
   refine AfU at_.inv (AgT rop.tau (hp HL)) hcb hct hD hF (ok:=okS F.Ae st dsts AfE valsL.length) (ev:=evs valsL env) ?_ ?_ so.op hs ?_
   ·refine at_.ok (anc:=AfE) (q:=valsL.length) (fun j hj=>by simpa[AfE]using hj) (fun j hj=>by simp[AfE];exact Nat.le_of_lt hj) (Nat.lt_irrefl _) (fun j _=>rfl) (fun i=>rfl) (fun v=>rfl)
   ·intro hn s hs'
    refine AdI fun l hl=>so.tk hn l hl s ?_
    rw[hct];exact hs'
   ·intro v u x w' β' own' hk h1 h2 h3
    exact hnext h1 h2 h3 hk.2
  show wpOps P ops Q (List.range' valsL.length (rops.length+1)) a w
  rw[List.range'_succ]
  unfold wpOps
  rw[ho]
  dsimp only
  unfold Dk at hr
  dsimp only at hr
  cases hg:rop.guard with
  | none=>
   rw[hg]at hr
   have hw:Region.wanted o (yielded ops a.tmps)=true:=by
    have:=so.guard
    rw[hg]at this
    simp[Region.wanted,this]
   rw[if_pos hw]
   exact .inl (hopS hr)
  | some g=>
   obtain⟨j,t⟩:=g
   rw[hg]at hr
   dsimp only at hr
   obtain⟨g1,d,g2⟩:=so.gin j t hg
   have hj:j<valsL.length:=by simpa[AfE]using g1
   split at hr
   ·rename_i b hb
    have hw:=U2 (ops:=ops) (o:=o) (q:=valsL.length) at_ hdd (by rw[so.guard,hg]) g2 hj hb (hlt j d g2)
    split at hr
    ·rename_i hbt
     rw[if_pos (by rw[hw];simpa using hbt)]
     exact .inl (hopS hr)
    ·rename_i hbt
     rw[if_neg (by rw[hw];simpa using hbt)]
     exact hnext (u:=[]) (fun z y h=>h) at_.inv ZH hr
   ·rename_i hb
    have hw:=XT (ops:=ops) (o:=o) (q:=valsL.length) at_ hdd (by rw[so.guard,hg]) g2 hj hb (hlt j d g2)
    rw[if_neg (by rw[hw];simp)]
    exact hnext (u:=[]) (fun z y h=>h) at_.inv ZH hr
   ·exact hr.elim
end
end Go.Eng
namespace Go.Eng
theorem AaO {D:Dn} {c:Cf} {H:Hp} {K:V->DL->Prop} {g:Nat} {args:List (Bool×V)} {sites:List Nat} (h:EX D c H K g args sites):
 ∃v u,EX D c H (fun v' u'=>v' =v/\u' =u) g args sites/\K v u:=by
 unfold EX at h
 split at h
 ·exact h.elim
 rename_i ks hks
 split at h
 ·exact h.elim
 rename_i hc
 split at h
 ·exact h.elim
 rename_i args' ha
 obtain⟨res,outs,hd,h⟩:=h
 split at h
 ·rename_i u v u' ss hb hi
  refine⟨v,u++u',?_,h⟩
  unfold EX
  rw[hks]
  dsimp only
  rw[if_neg hc,ha]
  dsimp only
  refine⟨res,outs,hd,?_⟩
  rw[hb,hi]
  exact⟨rfl,rfl⟩
 ·exact h.elim
theorem AeS {r:Option (V×DL)} {K:V->DL->Prop} (h:LZ r K):∃v u,LZ r (fun v' u'=>v' =v/\u' =u)/\K v u:=by
 cases r with
 | none=>exact h.elim
 | some p=>exact⟨p.1,p.2,⟨rfl,rfl⟩,h⟩
theorem Ag0 {D:Dn} {c:Cf} {H:Hp} {ev:Src->V} {op:LG} {K:V->DL->Prop} (h:stepW D c H ev op K):∃v u,stepW D c H ev op (fun v' u'=>v' =v/\u' =u)/\K v u:=by
 cases op with
 | call g args sites=>exact AaO (D:=D) (c:=c) (H:=H) (g:=g) (sites:=sites) h
 | callp g args sites=>exact AaO (D:=D) (c:=⟨true,c.takes⟩) (H:=H) (g:=g) (sites:=sites) h
 | callv f args sites=>
  have h':(match ev f with | .fn g caps=>EX D c H K g ((args.map fun(b,x)=>(b,ev x))++caps.map fun v=>(false,v)) sites | _=>False):=h
  split at h'
  ·rename_i g caps he
   obtain⟨v,u,h1,h2⟩:=AaO h'
   refine⟨v,u,?_,h2⟩
   show(match ev f with | .fn g caps=>EX D c H (fun v' u'=>v' =v/\u' =u) g ((args.map fun(b,x)=>(b,ev x))++caps.map fun v=>(false,v)) sites | _=>False)
   rw[he]
   exact h1
  ·exact h'.elim
 | mv x=>exact AeS (r:=some (ev x,[])) (show LZ (some (ev x,[])) K from h)
 | makeFunc g caps=>exact AeS (r:=some (.fn g (caps.map ev),[])) (show LZ (some (.fn g (caps.map ev),[])) K from h)
 | _=>exact AeS h
structure Tr (D:Dn) (c:Cf) (env:List V) (rop:I7) (vals:List V) (HL:List O) (v:V) (u:DL):Prop where
 go:(rop.guard=none∨∃j t,rop.guard=some (j,t)/\vals.getD j .undef= .sc (.bool t))->
  stepW D c (masked rop.tau (hp HL)) (evs vals env) rop.op (fun v' u'=>v' =v/\u' =u)/\okU rop.tau rop.om (hp HL) u=true
 skip:∀j t,rop.guard=some (j,t)->(∃b,vals.getD j .undef= .sc (.bool b)/\(b≠t->v= .tup []/\u=[]))∨(vals.getD j .undef= .tup []/\v= .tup []/\u=[])
def Gx (HL:List O):List DL->List O
 | []=>HL
 | u::r=>Gx (Si HL u) r
theorem trace {D:Dn} {c:Cf} {env:List V} {Qs:List V->List O->Prop}:∀ {rops:List I7} {vals:List V} {HL:List O},Dk D c env rops vals HL Qs->
 ∃(vs:List V) (us:List DL),vs.length=rops.length/\us.length=rops.length/\Qs (vals++vs) (Gx HL us)/\
  ∀(i:Nat) (rop:I7),rops[i]? =some rop->Tr D c env rop (vals++vs.take i) (Gx HL (us.take i)) (vs.getD i .undef) (us.getD i [])
 | [],vals,HL,h=>⟨[],[],rfl,rfl,by have h':Qs vals HL:=h;simpa[Gx]using h',by simp⟩
 | rop::rops,vals,HL,h=>by
  have fin:∀ {v:V} {u:DL},Tr D c env rop vals HL v u->Dk D c env rops (vals++ [v]) (Si HL u) Qs->∃(vs:List V) (us:List DL),vs.length=(rop::rops).length/\us.length=(rop::rops).length/\Qs (vals++vs) (Gx HL us)/\
   ∀(i:Nat) (rop':I7),(rop::rops)[i]? =some rop'->Tr D c env rop' (vals++vs.take i) (Gx HL (us.take i)) (vs.getD i .undef) (us.getD i []):=by
   intro v u ht hr
   obtain⟨vs,us,h1,h2,h3,h4⟩:=trace hr
   refine⟨v::vs,u::us,by simp[h1],by simp[h2],by simpa[Gx]using h3,?_⟩
   intro i rop' hi
   cases i with
   | zero=>simp at hi;subst hi;simpa[Gx]using ht
   | succ i=>
    have:=h4 i rop' (by simpa using hi)
    simpa[Gx]using this
  have goS:(∃(v:V) (u:DL),Tr D c env rop vals HL v u/\Dk D c env rops (vals++ [v]) (Si HL u) Qs)->∃(vs:List V) (us:List DL),vs.length=(rop::rops).length/\us.length=(rop::rops).length/\Qs (vals++vs) (Gx HL us)/\
   ∀(i:Nat) (rop':I7),(rop::rops)[i]? =some rop'->Tr D c env rop' (vals++vs.take i) (Gx HL (us.take i)) (vs.getD i .undef) (us.getD i []):=fun⟨v,u,h1,h2⟩=>fin h1 h2
  unfold Dk at h
  dsimp only at h
  cases hg:rop.guard with
  | none=>
   rw[hg]at h
   obtain⟨v,u,h1,h2,h3⟩:=Ag0 h
   exact fin ⟨fun _=>⟨h1,h2⟩,fun j t hh=>by rw[hg]at hh;cases hh⟩ h3
  | some g=>
   obtain⟨j,t⟩:=g
   rw[hg]at h
   dsimp only at h
   split at h
   ·rename_i b hb
    split at h
    ·rename_i hbt
     obtain⟨v,u,h1,h2,h3⟩:=Ag0 h
     refine fin ⟨fun _=>⟨h1,h2⟩,fun j' t' hh=> ?_⟩ h3
     rw[hg]at hh;cases hh
     exact .inl ⟨b,hb,fun hn=>absurd hbt hn⟩
    ·rename_i hbt
     refine fin (v:= .tup []) (u:=[]) ⟨fun hh=> ?_,fun j' t' hh=> ?_⟩ h
     ·rcases hh with hh | ⟨j',t',hh,h2⟩
      ·rw[hg]at hh;cases hh
      ·rw[hg]at hh;cases hh
       rw[hb]at h2;cases h2
       exact absurd rfl hbt
     ·rw[hg]at hh;cases hh
      exact .inl ⟨b,hb,fun _=>⟨rfl,rfl⟩⟩
   ·rename_i hb
    refine fin (v:= .tup []) (u:=[]) ⟨fun hh=> ?_,fun j' t' hh=> ?_⟩ h
    ·rcases hh with hh | ⟨j',t',hh,h2⟩
     ·rw[hg]at hh;cases hh
     ·rw[hg]at hh;cases hh
      rw[hb]at h2;cases h2
    ·rw[hg]at hh;cases hh
     exact .inr ⟨hb,rfl,rfl⟩
   ·exact h.elim
theorem AiY (us:List DL) (u:DL):∀(HL:List O),Gx HL (us++ [u])=Si (Gx HL us) u:=by
 induction us with
 | nil=>intro HL;rfl
 | cons a us ih=>intro HL;exact ih _
theorem AkB {α:Type} {l:List α} {i:Nat} {d x:α} (h:l[i]? =some x):l.take (i+1)=l.take i++ [l.getD i d]:=by
 rw[List.take_add_one,h]
 simp[List.getD_eq_getElem?_getD,h]
def Hs (HL:List O) (us:List DL) (i:Nat):Hp:=hp (Gx HL (us.take i))
theorem AeH {HL:List O} {us:List DL} {i:Nat} (h:i<us.length):Hs HL us (i+1)=Al (Hs HL us i) (us.getD i []):=by
 unfold Hs
 rw[AkB (d:=[]) (x:=us[i]) (by simp[h]),AiY,AjC]
theorem AjX {HL:List O} {us:List DL}:Hs HL us 0=hp HL:=by simp[Hs,Gx]
theorem Ani {u:DL} {k:Nat} (h:k∈u.map (·.1)) (H H':Hp):Al H u k=Al H' u k:=by
 induction u generalizing H H' with
 | nil=>cases h
 | cons a u ih=>
  obtain⟨k1,o⟩:=a
  simp only[Al]
  by_cases hk:k∈u.map (·.1)
  ·exact ih hk _ _
  ·rw[G8 hk,G8 hk]
   simp only[List.map_cons,List.mem_cons]at h
   rcases h with h | h
   ·rw[if_pos h,if_pos h]
   ·exact absurd h hk
theorem Aj3 {HL:List O} {us:List DL} {k:Nat} {i j:Nat} (hij:i<=j) (hj:j<=us.length) (h:∀m,i<=m->m<j->k∉(us.getD m []).map (·.1)):Hs HL us j k=Hs HL us i k:=by
 induction j with
 | zero=>
  have:i=0:=by omega
  rw[this]
 | succ j ih=>
  by_cases he:i=j+1
  ·rw[he]
  ·rw[AeH (by omega),G8 (h j (by omega) (by omega))]
   exact ih (by omega) (by omega) (fun m h1 h2=>h m h1 (by omega))
def Agree (om:Nat->List Nat) (n:Nat) (HL:List O) (us:List DL) (S:Nat->Prop) (Hc:Hp):Prop:=
 ∀i k,i<=n->(∀j,j<n->k∈om j->(S j↔j<i))->Hc k=Hs HL us i k
theorem Agree.start {om:Nat->List Nat} {n:Nat} {HL:List O} {us:List DL} (hn:us.length=n) (hom:∀j,∀k,k∈(us.getD j []).map (·.1)->k∈om j):Agree om n HL us (fun _=>False) (hp HL):=by
 intro i k hi hc
 rw[Aj3 (i:=0) (Nat.zero_le i) (by omega),AjX]
 intro m _ hm hk
 exact(hc m (by omega) (hom m k hk)).2 hm
theorem Agree.at {om:Nat->List Nat} {n:Nat} {HL:List O} {us:List DL} {S:Nat->Prop} {Hc:Hp} (ag:Agree om n HL us S Hc) {anc:Nat->Nat->Bool} {q:Nat} (hqn:q<n) (hq:¬S q) {k:Nat}
 (hanc:∀j,anc q j=true->S j) (hcl:∀j i,S j->anc j i=true->S i) (hlo:∀j,j<q->k∈om j->anc q j=true) (hhi:∀j,q<j->j<n->k∈om j->anc j q=true):Hc k=Hs HL us q k:=by
 refine ag q k (by omega) fun j hj hom=> ?_
 constructor
 ·intro hS
  rcases Nat.lt_trichotomy j q with h | h | h
  ·exact h
  ·subst h;exact absurd hS hq
  ·exact absurd (hcl j q hS (hhi j h hj hom)) hq
 ·intro h
  exact hanc j (hlo j h hom)
theorem Z9 {s:Option (Nat×Nat)} {k:Nat}:∀ {u:DL} {H:Hp},(∀o,(k,o)∈u->X7 o=s)->X7 (H k)=s->X7 (Al H u k)=s
 | [],H,_,h=>h
 | (k1,o1)::u,H,hu,h=>by
  refine Z9 (u:=u) (fun o ho=>hu o (by simp[ho])) ?_
  show X7 (if k=k1 then o1 else H k)=s
  split
  ·rename_i hk;subst hk;exact hu o1 (by simp)
  ·exact h
def Akt:LG->Bool
 | .slice .. =>true
 | _=>false
theorem Ah0 {H1 H2:Hp} (h:∀k,X7 (H1 k)=X7 (H2 k)) (e:Nat) (x:V) (l hi:Option Int):IV H1 e x l hi=IV H2 e x l hi:=by
 unfold IV
 cases x with
 | arr k=>
  have:=h k
  unfold X7 at this
  cases h1:Ac (H1 k)<;>cases h2:Ac (H2 k)<;>rw[h1,h2]at this<;>simp at this
  ·simp[h1,h2]
  ·rename_i a b
   obtain⟨a1,a2,a3,a4⟩:=a
   obtain⟨b1,b2,b3,b4⟩:=b
   obtain⟨rfl,rfl⟩:=this
   simp[h1,h2]
 | sub k off len=>
  have:=h k
  unfold X7 at this
  cases h1:Ac (H1 k)<;>cases h2:Ac (H2 k)<;>rw[h1,h2]at this<;>simp at this
  ·simp[h1,h2]
  ·rename_i a b
   obtain⟨a1,a2,a3,a4⟩:=a
   obtain⟨b1,b2,b3,b4⟩:=b
   obtain⟨rfl,rfl⟩:=this
   simp[h1,h2]
 | sc v=>cases v<;>rfl
 | sl fl e' len cs=>cases fl<;>rfl
 | _=>rfl
theorem Ait {D:Dn} {c:Cf} {H1 H2:Hp} {ev:Src->V} {op:LG} {K:V->DL->Prop} (hs:Akt op=true) (h:∀k,X7 (H1 k)=X7 (H2 k)) (hh:stepW D c H1 ev op K):stepW D c H2 ev op K:=by
 cases op with
 | slice e x lo hi=>
  have e1:op1 c.bor c.takes H1 ev (.slice e x lo hi)=op1 c.bor c.takes H2 ev (.slice e x lo hi):=by
   unfold op1 Pn
   simp only[Ah0 h]
  have h2:LZ (op1 c.bor c.takes H1 ev (.slice e x lo hi)) K:=hh
  rw[e1]at h2
  exact h2
 | _=>simp[Akt]at hs
theorem Agree.mask {om:Nat->List Nat} {n:Nat} {HL:List O} {us:List DL} {S:Nat->Prop} {Hc:Hp} (ag:Agree om n HL us S Hc) {anc:Nat->Nat->Bool} {q:Nat} (hqn:q<n) (hq:¬S q) {tau:List Nat}
 (hanc:∀j,anc q j=true->S j) (hcl:∀j i,S j->anc j i=true->S i) (hlo:∀j k,j<q->k∈om j->k∈tau->anc q j=true) (hhi:∀j k,q<j->j<n->k∈om j->k∈tau->anc j q=true):
 masked (some tau) Hc=masked (some tau) (Hs HL us q):=by
 funext k
 unfold masked
 dsimp only
 split
 ·rename_i hk
  have hk':k∈tau:=by simpa using hk
  refine ag q k (by omega) fun j hj hom=> ?_
  constructor
  ·intro hS
   rcases Nat.lt_trichotomy j q with h | h | h
   ·exact h
   ·subst h;exact absurd hS hq
   ·exact absurd (hcl j q hS (hhi j k h hj hom hk')) hq
  ·intro h
   exact hanc j (hlo j k h hom hk')
 ·rfl
theorem Agree.step {om:Nat->List Nat} {n:Nat} {HL:List O} {us:List DL} {S:Nat->Prop} {Hc:Hp} (ag:Agree om n HL us S Hc) (hn:us.length=n) (hom:∀j,∀k,k∈(us.getD j []).map (·.1)->k∈om j)
 {anc:Nat->Nat->Bool} {q:Nat} (hqn:q<n) (hq:¬S q) (hcl:∀j i,S j->anc j i=true->S i) (hlo:∀j k,j<q->k∈om j->k∈om q->anc q j=true)
 (hhi:∀j k,q<j->j<n->k∈om j->k∈om q->anc j q=true):Agree om n HL us (fun j=>S j∨j=q) (Al Hc (us.getD q [])):=by
 intro i k hi hc
 by_cases hkq:k∈om q
 ·have hqi:q<i:=(hc q hqn hkq).1 (.inr rfl)
  have hbet:∀m,q+1<=m->m<i->k∉(us.getD m []).map (·.1):=by
   intro m h1 h2 hk
   have hmo:=hom m k hk
   rcases(hc m (by omega) hmo).2 h2 with h3 | h3
   ·exact hq (hcl m q h3 (hhi m k (by omega) (by omega) hmo hkq))
   ·omega
  rw[Aj3 (i:=q+1) (by omega) (by omega) hbet,AeH (by omega)]
  by_cases hku:k∈(us.getD q []).map (·.1)
  ·exact Ani hku _ _
  ·rw[G8 hku,G8 hku]
   refine ag q k (by omega) fun j hj hjo=> ?_
   constructor
   ·intro hS
    rcases Nat.lt_trichotomy j q with h | h | h
    ·exact h
    ·subst h;exact absurd hS hq
    ·exact absurd (hcl j q hS (hhi j k h hj hjo hkq)) hq
   ·intro h
    rcases(hc j hj hjo).2 (by omega)with h3 | h3
    ·exact h3
    ·omega
 ·rw[G8 (fun h=>hkq (hom q k h))]
  refine ag i k hi fun j hj hjo=> ?_
  have hne:j≠q:=fun h=>hkq (h▸hjo)
  rw[<-hc j hj hjo]
  constructor
  ·exact fun h=> .inl h
  ·intro h
   rcases h with h | h
   ·exact h
   ·exact absurd h hne
theorem Agree.done {om:Nat->List Nat} {n:Nat} {HL:List O} {us:List DL} {S:Nat->Prop} {Hc:Hp} (ag:Agree om n HL us S Hc) (h:∀j,j<n->S j):Hc=Hs HL us n:=by
 funext k
 exact ag n k (Nat.le_refl n) fun j hj _=>⟨fun _=>hj,fun _=>h j hj⟩
end Go.Eng
namespace Go.Eng
set_option linter.unusedVariables false
def unl (n:Nat) (listed:Array Bool):Nat:=(List.range n).countP fun j=> !listed.getD j false
theorem Ag1 {l:List Nat} (hn:l.Nodup) {p p':Nat->Bool} {q:Nat} (hq:q∈l) (h1:p q=true) (h2:p' q=false) (h:∀j,j≠q->p' j=p j):l.countP p'+1=l.countP p:=by
 induction l with
 | nil=>cases hq
 | cons a l ih=>
  simp only[List.nodup_cons]at hn
  rw[List.countP_cons,List.countP_cons]
  by_cases ha:a=q
  ·subst ha
   have:l.countP p' =l.countP p:=by
    apply List.countP_congr
    intro x hx
    rw[h x (fun e=>hn.1 (e▸hx))]
   rw[this,h1,h2]
   simp
  ·have:=ih hn.2 (by rcases List.mem_cons.1 hq with g | g;exact absurd g.symm ha;exact g)
   rw[h a ha]
   omega
theorem Am8 {n:Nat} {listed:Array Bool} {q:Nat} (hs:listed.size=n) (hq:q<n) (h:listed.getD q true=false):unl n (listed.setIfInBounds q true)+1=unl n listed:=by
 unfold unl
 have hlt:q<listed.size:=by omega
 refine Ag1 List.nodup_range (q:=q) (List.mem_range.2 hq) ?_ ?_ ?_
 ·rw[Array.getD_eq_getD_getElem?]at h⊢
  rw[Array.getElem?_eq_getElem hlt]at h⊢
  simpa using h
 ·rw[Array.getD_eq_getD_getElem?]
  simp[hlt]
 ·intro j hj
  rw[getD_set_ne false (fun e=>hj e.symm)]
theorem Ano {n:Nat} {listed:Array Bool} (h:unl n listed=0):∀j,j<n->listed.getD j false=true:=by
 intro j hj
 unfold unl at h
 rw[List.countP_eq_zero]at h
 have:=h j (List.mem_range.2 hj)
 simpa using this
section
variable {P:Program} {F:Fr} {β β':Nat->Base} {own own':Nat->Option (Nat×List Nat)} {H H':Hp} {w w':World} {st:List Tmp} {nt:Nat} {dsts:List (Option Tmp)} {env:List V} {a:Act}
def Adl (rops:List I7) (k:Nat):Bool:=rops.all fun w=> !w.om.contains k||w.om.contains (k+100000)
def OD (rops:List I7) (rd:I7) (k:Nat):Bool:=Akt rd.op&&Adl rops k&& !rd.om.contains k
structure Apt (ops:Array Oper) (rops:List I7) (anc:Nat->Nat->Bool):Prop where
 len:rops.length=ops.size
 up:∀q o,ops[q]? =some o->∀j,anc q j=true->∃e,e∈o.after/\Region.binds .any e=true/\(e.on=j∨anc e.on j=true)
 pre:∀q o,ops[q]? =some o->∀e,e∈o.after->Region.binds .any e=true->e.on<q
 tau:∀(q:Nat) (rop:I7),rops[q]? =some rop->∃t,rop.tau=some t/\∀k,k∈rop.om->k∈t
 conf:∀(i j:Nat) (ri rj:I7),i<j->rops[i]? =some ri->rops[j]? =some rj->∀k,(k∈ri.om/\k∈rj.tau.getD []/\OD rops rj k=false∨k∈ri.tau.getD []/\k∈rj.om/\OD rops ri k=false)->anc j i=true
def PI (rops:List I7) (j:Nat):List Nat:=((rops[j]?).map (·.om)).getD []
theorem Akf {c:Cf} (hcb:c.bor=F.bor) (hct:c.takes=F.takes) {D:Dn} (hD:∀g a gi r o,D g a gi r o->Den P F.Ae F.G g a gi r o) (hF:∀g f,F.Ae g=some f->okF P f=true)
 {ops:Array Oper} (hdd:∀j:Nat,dsts[j]? =(ops[j]?).map (·.dst)) (huniq:∀(i j:Nat) (t:Tmp),dsts[i]? =some (some t)->dsts[j]? =some (some t)->i=j)
 (hlt:∀(j:Nat) (t:Tmp),dsts[j]? =some (some t)->t<nt) {rops:List I7} {anc:Nat->Nat->Bool} (sr:Apt ops rops anc)
 (hstat:∀(i:Nat) (rop:I7),rops[i]? =some rop->∃o,ops[i]? =some o/\AeY P F c st nt dsts anc i rop o) {HL:List O} {vs:List V} {us:List DL} (hvl:vs.length=rops.length) (hul:us.length=rops.length)
 (htr:∀(i:Nat) (rop:I7),rops[i]? =some rop->Tr D c env rop (vs.take i) (Gx HL (us.take i)) (vs.getD i .undef) (us.getD i [])) {Q:Exit->Act->World->Prop}
 (hQ:∀a' w' β' own',At F st nt dsts env β' own' (fun j=>vs.getD j .undef) (fun j=>j<ops.size) (hp (Gx HL us)) a' w'->Q .normal a' w'):
 ∀(fuel:Nat) (listed:Array Bool) (a:Act) (w:World) (β:Nat->Base) (own:Nat->Option (Nat×List Nat)) (Hc:Hp),listed.size=ops.size->unl ops.size listed<=fuel->
  (∀j i,listed.getD j false=true->anc j i=true->listed.getD i false=true)->
  At F st nt dsts env β own (fun j=>vs.getD j .undef) (fun j=>listed.getD j false=true) Hc a w->Agree (PI rops) ops.size HL us (fun j=>listed.getD j false=true) Hc->(∀k,Adl rops k=true->X7 (Hc k)=X7 (hp HL k))->
  wpAny P .any ops Q fuel listed a w:=by
 have hom:∀j,∀k,k∈(us.getD j []).map (·.1)->k∈PI rops j:=by
  intro j k hk
  cases hj:rops[j]? with
  | none=>
   have:us[j]? =none:=by rw[List.getElem?_eq_none_iff]at hj⊢;omega
   simp[List.getD_eq_getElem?_getD,this]at hk
  | some rop=>
   have tr:=htr j rop hj
   have hgo:okU rop.tau rop.om (hp (Gx HL (us.take j))) (us.getD j [])=true->k∈PI rops j:=by
    intro h
    obtain⟨t,ht,_⟩:=sr.tau j rop hj
    rw[ht]at h
    simp only[okU,List.all_eq_true,Bool.and_eq_true,List.contains_iff_mem]at h
    obtain⟨p,hp',hpk⟩:=List.mem_map.1 hk
    have:=(h p hp').1
    rw[hpk]at this
    simpa[PI,hj]using this
   cases hg:rop.guard with
   | none=>exact hgo (tr.go (.inl hg)).2
   | some g=>
    obtain⟨jj,t⟩:=g
    rcases tr.skip jj t hg with⟨b,hb,hs⟩ | ⟨_,_,hu⟩
    ·by_cases hbt:b=t
     ·subst hbt
      exact hgo (tr.go (.inr ⟨jj,b,hg,hb⟩)).2
     ·rw[(hs hbt).2]at hk;simp at hk
    ·rw[hu]at hk;simp at hk
 have hul':us.length=ops.size:=by rw[hul,sr.len]
 have husk:∀j,(∀k,Adl rops k=true->X7 (Hs HL us j k)=X7 (hp HL k))->∀k o,(k,o)∈us.getD j []->Adl rops k=true->X7 o=X7 (hp HL k):=by
  intro j hH k o hko hkp
  cases hj:rops[j]? with
  | none=>
   have:us[j]? =none:=by rw[List.getElem?_eq_none_iff]at hj⊢;omega
   simp[List.getD_eq_getElem?_getD,this]at hko
  | some rop=>
   have tr:=htr j rop hj
   have hgo:okU rop.tau rop.om (hp (Gx HL (us.take j))) (us.getD j [])=true->X7 o=X7 (hp HL k):=by
    intro h
    obtain⟨t,ht,_⟩:=sr.tau j rop hj
    rw[ht]at h
    simp only[okU,List.all_eq_true,Bool.and_eq_true,Bool.or_eq_true,Bool.not_eq_true',decide_eq_true_eq]at h
    have h1:=h _ hko
    have h2:=List.all_eq_true.1 hkp rop (List.mem_of_getElem? hj)
    simp only[Bool.or_eq_true,Bool.not_eq_true']at h2
    have h3:rop.om.contains (k+100000)=true:=by
     rcases h2 with h2 | h2
     ·rw[h1.1]at h2;cases h2
     ·exact h2
    rcases h1.2 with h4 | h4
    ·rw[h3]at h4;cases h4
    ·rw[<-h4];exact hH k hkp
   cases hg:rop.guard with
   | none=>exact hgo (tr.go (.inl hg)).2
   | some g=>
    obtain⟨jj,t⟩:=g
    rcases tr.skip jj t hg with⟨b,hb,hs⟩ | ⟨_,_,hu⟩
    ·by_cases hbt:b=t
     ·subst hbt
      exact hgo (tr.go (.inr ⟨jj,b,hg,hb⟩)).2
     ·rw[(hs hbt).2]at hko;simp at hko
    ·rw[hu]at hko;simp at hko
 have hHs:∀j,j<=us.length->∀k,Adl rops k=true->X7 (Hs HL us j k)=X7 (hp HL k):=by
  intro j
  induction j with
  | zero=>intro _ k _;rw[AjX]
  | succ j ih=>
   intro hj k hk
   rw[AeH (by omega)]
   exact Z9 (fun o ho=>husk j (ih (by omega)) k o ho hk) (ih (by omega) k hk)
 have hconf1:∀q rop,rops[q]? =some rop->∀tau,rop.tau=some tau->(∀j k,j<q->k∈PI rops j->k∈tau->OD rops rop k=false->anc q j=true)/\(∀j k,q<j->j<ops.size->k∈PI rops j->k∈tau->OD rops rop k=false->anc j q=true):=by
  intro q rop hq tau ht
  refine⟨fun j k hj hk hkt hex=> ?_,fun j k hj hjn hk hkt hex=> ?_⟩
  ·cases hrj:rops[j]? with
   | none=>simp[PI,hrj]at hk
   | some rj=>exact sr.conf j q rj rop hj hrj hq k (.inl ⟨by simpa[PI,hrj]using hk,by rw[ht];exact hkt,hex⟩)
  ·cases hrj:rops[j]? with
   | none=>simp[PI,hrj]at hk
   | some rj=>exact sr.conf q j rop rj hj hq hrj k (.inr ⟨by rw[ht];exact hkt,by simpa[PI,hrj]using hk,hex⟩)
 have hend:∀(listed:Array Bool) (a:Act) (w:World) (β:Nat->Base) (own:Nat->Option (Nat×List Nat)) (Hc:Hp),
  At F st nt dsts env β own (fun j=>vs.getD j .undef) (fun j=>listed.getD j false=true) Hc a w->Agree (PI rops) ops.size HL us (fun j=>listed.getD j false=true) Hc->
  (∀j,j<ops.size->listed.getD j false=true)->listed.size=ops.size->Q .normal a w:=by
  intro listed a w β own Hc at_ ag hall hsz
  have hH:=ag.done hall
  have h2:Hs HL us ops.size=hp (Gx HL us):=by
   unfold Hs
   rw[<-hul',List.take_length]
  rw[hH,h2]at at_
  refine hQ a w β own ⟨at_.inv,fun j t hj hd=>at_.loc j t (hall j hj) hd,fun i t hi hn=>at_.slot i t hi fun j hj=>hn j ?_,at_.nt,at_.defers⟩
  rw[<-hsz]
  rcases Nat.lt_or_ge j listed.size with h | h
  ·exact h
  ·simp[Array.getElem?_eq_none h]at hj
 have hready:∀(listed:Array Bool),listed.size=ops.size->Region.ready .any ops listed=[]->∀j,j<ops.size->listed.getD j false=true:=by
  intro listed hsz hr j
  induction j using Nat.strongRecOn with
  | _ j ih=>
   intro hj
   cases hl:listed.getD j false with
   | true=>rfl
   | false=>
    exfalso
    have:j∈Region.ready .any ops listed:=by
     rw[mem_ready]
     refine⟨?_,ops[j],by simp[hj],fun e he hb=> ?_⟩
     ·have hlt:j<listed.size:=by omega
      rw[Array.getD_eq_getD_getElem?]at hl⊢
      rw[Array.getElem?_eq_getElem hlt]at hl⊢
      simpa using hl
     ·have:=sr.pre j ops[j] (by simp[hj]) e he hb
      exact ih e.on this (by omega)
    rw[hr]at this
    cases this
 intro fuel
 induction fuel with
 | zero=>
  intro listed a w β own Hc hsz hf hcl at_ ag hsh
  have hall:=Ano (Nat.le_zero.1 hf)
  refine⟨?_,hend listed a w β own Hc at_ ag hall hsz⟩
  apply List.eq_nil_iff_forall_not_mem.2
  intro j hj
  rw[mem_ready]at hj
  obtain⟨h1,o,ho,_⟩:=hj
  have hjn:j<ops.size:=(Array.getElem?_eq_some_iff.1 ho).1
  have h2:=hall j hjn
  have hlt:j<listed.size:=by omega
  rw[Array.getD_eq_getD_getElem?]at h1 h2
  rw[Array.getElem?_eq_getElem hlt]at h1 h2
  simp at h1 h2
  rw[h1]at h2;cases h2
 | succ fuel ih=>
  intro listed a w β own Hc hsz hf hcl at_ ag hsh
  refine⟨fun hr=>hend listed a w β own Hc at_ ag (hready listed hsz hr) hsz,?_⟩
  intro q hq
  rw[mem_ready]at hq
  obtain⟨hq0,o,ho,hpre⟩:=hq
  have hqn:q<ops.size:=(Array.getElem?_eq_some_iff.1 ho).1
  have hqlt:q<listed.size:=by omega
  have hqS:¬listed.getD q false=true:=by
   rw[Array.getD_eq_getD_getElem?]at hq0⊢
   rw[Array.getElem?_eq_getElem hqlt]at hq0⊢
   simp at hq0⊢
   exact hq0
  obtain⟨rop,hrop⟩:∃rop,rops[q]? =some rop:=⟨rops[q]'(by rw[sr.len];exact hqn),by simp⟩
  obtain⟨o',ho',so⟩:=hstat q rop hrop
  rw[ho]at ho';cases ho'
  obtain⟨tau,htau,homtau⟩:=sr.tau q rop hrop
  have hancS:∀j,anc q j=true->listed.getD j false=true:=by
   intro j hj
   obtain⟨e,he,hb,h⟩:=sr.up q o ho j hj
   have:=hpre e he hb
   rcases h with h | h
   ·rw[<-h];exact this
   ·exact hcl _ _ this h
  obtain⟨hlo,hhi⟩:=hconf1 q rop hrop tau htau
  have hom0:∀k,k∈rop.om->OD rops rop k=false:=fun k hk=>by
   have:rop.om.contains k=true:=by simpa using hk
   simp[OD,hk]
  have hmaskS:Akt rop.op=true->∀k,X7 (masked (some tau) (Hs HL us q) k)=X7 (masked (some tau) Hc k):=by
   intro _ k
   unfold masked
   dsimp only
   split
   ·rename_i hk
    have hk':k∈tau:=by simpa using hk
    cases hex:OD rops rop k with
    | true=>
     have hkp:Adl rops k=true:=by
      unfold OD at hex
      simp only[Bool.and_eq_true]at hex
      exact hex.1.2
     rw[hHs q (by omega) k hkp,hsh k hkp]
    | false=>rw[ag.at (anc:=anc) hqn hqS (k:=k) hancS hcl (fun j h1 h2=>hlo j k h1 h2 hk' hex) (fun j h1 h2 h3=>hhi j k h1 h2 h3 hk' hex)]
   ·rfl
  have hmaskN:Akt rop.op=false->masked (some tau) Hc=masked (some tau) (Hs HL us q):=fun hn=>
   ag.mask (anc:=anc) hqn hqS (tau:=tau) hancS hcl (fun j k h1 h2 h3=>hlo j k h1 h2 h3 (by simp[OD,hn])) (fun j k h1 h2 h3 h4=>hhi j k h1 h2 h3 h4 (by simp[OD,hn]))
  have hS':∀j,(listed.setIfInBounds q true).getD j false=true↔(listed.getD j false=true∨j=q):=by
   intro j
   by_cases hj:j=q
   ·subst hj
    simp[hqlt]
   ·rw[getD_set_ne false (fun e=>hj e.symm)]
    simp[hj]
  have hnext:∀ {x:Value} {w':World} {β':Nat->Base} {own':Nat->Option (Nat×List Nat)},
   (∀z y,VR F β own Hc w z y->VR F β' own' (Al Hc (us.getD q [])) w' z y)->Inv F β' own' (Al Hc (us.getD q [])) w'->VR F β' own' (Al Hc (us.getD q [])) w' (vs.getD q .undef) x->
   wpAny P .any ops Q fuel (listed.setIfInBounds q true) (a.put o.dst x) w':=by
   intro x w' β' own' h1 h2 h3
   have h5:=at_.step (q:=q) (dst:=o.dst) (v:=vs.getD q .undef) (x:=x) (vals':=fun j=>vs.getD j .undef) h1 h2 h3 so.dst (fun j t hj hd hd2=>by
    have hd3:dsts[q]? =some (some t):=by rw[so.dst,hd]
    have h6:=huniq j q t hd2 hd3
    rw[h6]at hj
    exact hqS hj) so.lt (fun j hj=>rfl) rfl hqS
   refine ih _ _ w' β' own' (Al Hc (us.getD q [])) (by simpa using hsz) ?_ ?_ ?_ ?_ (fun k hk=>Z9 (fun o ho=>husk q (hHs q (by omega)) k o ho hk) (hsh k hk))
   ·have:=Am8 hsz hqn hq0
    omega
   ·intro j i hj hji
    rw[hS']at hj⊢
    rcases hj with hj | hj
    ·exact .inl (hcl j i hj hji)
    ·subst hj;exact .inl (hancS i hji)
   ·exact⟨h5.inv,fun j t hj hd=>h5.loc j t ((hS' j).1 hj) hd,fun i t hi hn=>h5.slot i t hi fun j hj=>hn j ((hS' j).2 hj),h5.nt,h5.defers⟩
   ·have hag:=ag.step hul' hom (anc:=anc) hqn hqS hcl (fun j k h1 h2 h3=>hlo j k h1 h2 (homtau k (by simpa[PI,hrop]using h3)) (hom0 k (by simpa[PI,hrop]using h3))) (fun j k h1 h2 h3 h4=>hhi j k h1 h2 h3 (homtau k (by simpa[PI,hrop]using h4)) (hom0 k (by simpa[PI,hrop]using h4)))
    intro i k hi hc
    exact hag i k hi fun j hj hk=>(hS' j).symm.trans (hc j hj hk)
  have hev:evs (vs.take q) env=fun s=>evs (vs.take q) env s:=rfl
  have hloc:∀j,j<q->(vs.take q).getD j .undef=vs.getD j .undef:=by
   intro j hj
   simp[List.getD_eq_getElem?_getD,hj]
  have hancq:∀n,∀q,q<=n->∀o,ops[q]? =some o->∀j,anc q j=true->j<q:=by
   intro n
   induction n with
   | zero=>
    intro q hq o ho j hj
    obtain⟨e,he,hb,h⟩:=sr.up q o ho j hj
    have:=sr.pre q o ho e he hb
    omega
   | succ n ihn=>
    intro q hq o ho j hj
    obtain⟨e,he,hb,h⟩:=sr.up q o ho j hj
    have hlt:=sr.pre q o ho e he hb
    rcases h with h | h
    ·omega
    ·have hq2:q<ops.size:=(Array.getElem?_eq_some_iff.1 ho).1
     have:=ihn e.on (by omega) ops[e.on] (by simp) j h
     omega
  have tr:=htr q rop hrop
  have hopS:(rop.guard=none∨∃j t,rop.guard=some (j,t)/\(vs.take q).getD j .undef= .sc (.bool t))->o.wp P a w (wpAny P .any ops Q fuel (listed.setIfInBounds q true)) Q:=by
   intro hg
   obtain⟨hs,_⟩:=tr.go hg
   have hs:stepW D c (masked rop.tau Hc) (evs (vs.take q) env) rop.op (fun v' u'=>v' =vs.getD q .undef/\u' =us.getD q []):=by
    cases hsl:Akt rop.op with
    | true=>exact Ait hsl (by rw[htau];exact hmaskS hsl) hs
    | false=>
     have hm:masked rop.tau (hp (Gx HL (us.take q)))=masked rop.tau Hc:=by
      rw[htau];exact(hmaskN hsl).symm
     rw[hm]at hs
     exact hs
   refine AfU at_.inv (AgT rop.tau Hc) hcb hct hD hF (ok:=okS F.Ae st dsts anc q) (ev:=evs (vs.take q) env) ?_ ?_ so.op hs ?_
   ·intro s x hsx
    have h1:=at_.ok (anc:=anc) (q:=q) hancS (fun j hj=>by
     cases hh:anc j q with
     | false=>rfl
     | true=>exact absurd (hcl j q hj hh) hqS) hqS (ev:=evs vs env) (fun j _=>rfl) (fun i=>rfl) (fun v=>rfl) s x hsx
    have h2:evs (vs.take q) env s=evs vs env s:=by
     cases s with
     | loc j=>
      unfold okS at hsx
      split at hsx
      ·rename_i heq
       cases heq
       simp only[Bool.and_eq_true]at hsx
       exact hloc _ (hancq q q (Nat.le_refl q) o ho _ hsx.1)
      ·rename_i heq;cases heq
      ·rename_i heq;cases heq
      ·rename_i heq;cases heq
      ·cases hsx
     | slot i=>rfl
     | con v=>rfl
    rw[h2];exact h1
   ·intro hn s hs'
    refine AdI fun l hl=>so.tk hn l hl s ?_
    rw[hct];exact hs'
   ·intro v u x w' β' own' hk h1 h2 h3
    obtain⟨rfl,rfl⟩:=hk
    exact hnext h1 h2 h3
  unfold wpOp
  rw[ho]
  dsimp only
  cases hg:rop.guard with
  | none=>
   have hw:Region.wanted o (yielded ops a.tmps)=true:=by
    have:=so.guard
    rw[hg]at this
    simp[Region.wanted,this]
   rw[if_pos hw]
   exact .inl (hopS (.inl hg))
  | some g=>
   obtain⟨j,t⟩:=g
   obtain⟨g1,d,g2⟩:=so.gin j t hg
   have hjS:=hancS j g1
   rcases tr.skip j t hg with⟨b,hb,hskip⟩ | ⟨hb,hv0,hu0⟩
   rotate_left
   ·have hb2:vs.getD j .undef= .tup []:=by rw[<-hloc j (hancq q q (Nat.le_refl q) o ho j g1)];exact hb
    have hw:=XT (ops:=ops) (o:=o) (q:=q) at_ hdd (by rw[so.guard,hg]) g2 hjS hb2 (hlt j d g2)
    rw[if_neg (by rw[hw];simp)]
    have:=hnext (x:=undef) (w':=w) (β':=β) (own':=own) (by rw[hu0];exact fun z y h=>h) (by rw[hu0];exact at_.inv) (by rw[hv0];exact ZH)
    exact this
   have hb2:vs.getD j .undef= .sc (.bool b):=by rw[<-hloc j (hancq q q (Nat.le_refl q) o ho j g1)];exact hb
   have hw:=U2 (ops:=ops) (o:=o) (q:=q) at_ hdd (by rw[so.guard,hg]) g2 hjS hb2 (hlt j d g2)
   by_cases hbt:b=t
   ·rw[if_pos (by rw[hw];simpa using hbt)]
    subst hbt
    exact .inl (hopS (.inr ⟨j,b,hg,hb⟩))
   ·rw[if_neg (by rw[hw];simpa using hbt)]
    obtain⟨h1,h2⟩:=hskip hbt
    have:=hnext (x:=undef) (w':=w) (β':=β) (own':=own) (by rw[h2];exact fun z y h=>h) (by rw[h2];exact at_.inv) (by rw[h1];exact ZH)
    exact this
end
end Go.Eng
namespace Go.Eng
set_option linter.unusedVariables false
theorem Apm {k:Nat} {v:V} (h:m1 k v=false):m3 k v=false:=by
 cases v<;>first | exact h | (simp[m1]at h)
theorem ArR {k:Nat} {v:V} (h:m2 k v=false):m3 k v=false:=by
 cases v<;>first | exact h | (simp[m2,m1]at h)
theorem AjN (k:Nat) (v:V):m3 k (OB k v)=false:=by
 unfold OB
 split
 ·rfl
 ·rename_i h;simpa using h
section
variable {F:Fr} {β β':Nat->Base} {own own':Nat->Option (Nat×List Nat)} {H H':Hp} {w:World}
theorem VR.other {v:V} {x:Value} (h:VR F β own H w v x) {ex:Nat->Prop} (hm:∀k,ex k->m3 k v=false) (hS:∀fl b,1<=fl->F.S w own fl b->F.S w own' fl b)
 (hβ:∀j,¬ex j->β' j=β j) (ha:∀j,¬ex j->Ac (H' j)=Ac (H j)) (hv:∀j cs,¬ex j->H j= .var cs->∃cs',H' j= .var cs') (hd:∀j,¬ex j->H j= .dead->H' j= .dead):
 VR F β' own' H' w v x:=by
 induction h with
 | sc h1=>exact .sc h1
 | nil e=>exact .nil e
 | rd h1 h=>exact .rd h1 (h.move (fun b=>hS _ b h1) (fun _ _=>rfl))
 | rptr h1 h=>exact .rptr h1 (h.move (fun b=>hS _ b h1) (fun _ _=>rfl))
 | @arr k e t len cs h=>
  have hk:¬ex k:=fun hh=>by have:=hm k hh;simp[m3,m2,m1]at this
  rw[<-hβ k hk]
  exact .arr (by rw[ha k hk];exact h)
 | @sub k off e t len n cs x h hn hx=>
  have hk:¬ex k:=fun hh=>by have:=hm k hh;simp[m3,m2,m1]at this
  exact .sub (by rw[ha k hk];exact h) hn (by rw[hβ k hk];exact hx)
 | @ptr k off b o h hb=>
  have hk:¬ex k:=fun hh=>by have:=hm k hh;simp[m3,m2,m1]at this
  refine .ptr ?_ (by rw[hβ k hk];exact hb)
  rcases h with h | ⟨cs,h⟩
  ·left
   rw[EA]at h⊢
   rw[ha k hk];exact h
  ·right;exact hv k cs hk h
 | @goneA k _ _ _ h=>
  have hk:¬ex k:=fun hh=>by have:=hm k hh;simp[m3,m2,m1]at this
  exact .goneA (hd k hk h)
 | @goneS k _ _ _ _ _ h=>
  have hk:¬ex k:=fun hh=>by have:=hm k hh;simp[m3,m2,m1]at this
  exact .goneS (hd k hk h)
 | @goneP k _ _ _ h=>
  have hk:¬ex k:=fun hh=>by have:=hm k hh;simp[m3,m2,m1]at this
  exact .goneP (hd k hk h)
 | @fn g caps f vs hf hv2 hc ih=>
  refine .fn hf hv2 fun i v x hv' hx=>ih i v x hv' hx fun k hk=> ?_
  have:=hm k hk
  simp only[m3,m2,List.any_eq_false]at this
  exact Apm (by simpa using this v (List.mem_of_getElem? hv'))
 | @agg cs vs h1 hv2 hc ih=>
  refine .agg h1 hv2 fun i v x hv' hx=>ih i v x hv' hx fun k hk=> ?_
  have:=hm k hk
  simp only[m3,m2,List.any_eq_false]at this
  exact Apm (by simpa using this v (List.mem_of_getElem? hv'))
 | @tup cs vs hv2 hc ih=>
  refine .tup hv2 fun i v x hv' hx=>ih i v x hv' hx fun k hk=> ?_
  have:=hm k hk
  simp only[m3,List.any_eq_false]at this
  exact ArR (by simpa using this v (List.mem_of_getElem? hv'))
 | undef=>exact .undef
def L6 (own:Nat->Option (Nat×List Nat)) (k:Nat):Nat->Option (Nat×List Nat):=fun b=>
 match own b with
 | some (k',p)=>if k' =k then none else some (k',p)
 | none=>none
theorem J8 {k b:Nat} {q:Nat×List Nat} (h:L6 own k b=some q):own b=some q/\q.1≠k:=by
 unfold L6 at h
 cases ho:own b with
 | none=>simp[ho]at h
 | some r=>
  obtain⟨k',p⟩:=r
  simp only[ho]at h
  split at h
  ·cases h
  ·cases h;exact⟨rfl,‹_›⟩
theorem RI {k b:Nat} {q:Nat×List Nat} (h:own b=some q) (hk:q.1≠k):L6 own k b=some q:=by
 unfold L6
 rw[h]
 obtain⟨k',p⟩:=q
 simp at hk⊢
 exact hk
theorem XQ (k:Nat) (o:O):Ac (M5 k o)=Ac o:=by
 cases o with
 | tarr j off e t len cs=>simp only[M5];split<;>rfl
 | _=>rfl
theorem Aas {k:Nat} {o:O}:M5 k o= .free↔o= .free:=by
 cases o with
 | tarr j off e t len cs=>simp only[M5];split<;>simp
 | _=>simp[M5]
def Ir (H:Hp) (k:Nat):Hp:=fun j=>if j=k then .free else M5 k (H j)
theorem An8 (inv:Inv F β own H w) {k:Nat} {v:V} {x:Value} (h:VR F β own H w v x) (hm:m3 k v=false):VR F β (L6 own k) (Ir H k) w v x:=by
 refine h.other (ex:=fun j=>j=k) (fun j hj=>by rw[hj];exact hm) ?_ (fun _ _=>rfl) ?_ ?_ ?_
 ·intro fl b h1 hs
  match fl,h1 with
  | 1,_=>exact hs
  | 2,_=>exact⟨hs.1,hs.2.1,fun k' hk'=>hs.2.2 k' (J8 hk').1⟩
  | 3,_=>exact hs
  | n+4,_=>exact⟨hs.1,hs.2.1,fun k' hk'=>hs.2.2 k' (J8 hk').1⟩
 ·intro j hj
  simp only[Ir,if_neg hj]
  exact XQ k (H j)
 ·intro j cs hj h
  exact⟨cs.map (OB k),by simp only[Ir,if_neg hj,h,M5]⟩
 ·intro j hj h
  simp only[Ir,if_neg hj,h,M5]
theorem Ahu (inv:Inv F β own H w) {k:Nat} {v:V} {x:Value} (h:VR F β own H w v x):VR F β (L6 own k) (Ir H k) w (OB k v) x:=by
 unfold OB
 split
 ·exact .undef
 ·rename_i hm
  exact An8 inv h (by simpa using hm)
theorem Aqd {k fl b:Nat} (h1:1<=fl) (hs:F.S w own fl b):F.S w (L6 own k) fl b:=by
 match fl,h1 with
 | 1,_=>exact hs
 | 2,_=>exact⟨hs.1,hs.2.1,fun k' hk'=>hs.2.2 k' (J8 hk').1⟩
 | 3,_=>exact hs
 | n+4,_=>exact⟨hs.1,hs.2.1,fun k' hk'=>hs.2.2 k' (J8 hk').1⟩
theorem Ad9 {j k:Nat} (hj:j≠k) {B:Base} {e t len:Nat} {cs:List V} (h:AR F own w j B e t len cs):AR F (L6 own k) w j B e t len cs:=by
 obtain⟨vs,g1,g2,g3,g4,g5⟩:=h
 refine⟨vs,g1,g2,g3,?_,?_⟩
 ·rcases g4 with g4 | ⟨b,o,q1,q2,q3⟩
  ·exact .inl g4
  ·exact .inr ⟨b,o,q1,RI q2 hj,q3⟩
 ·intro i v x hv hx
  exact(g5 i v x hv hx).move (Nat.le_refl _) (fun fl b h1 _ hs=>Aqd h1 hs) (fun _ _ _ _ _=>rfl) (fun b q hb=>⟨RI hb hj,rfl⟩)
theorem AmM (inv:Inv F β own H w) {k:Nat} (hk:F.ngiven<=k):Inv F β (L6 own k) (Ir H k) w:=by
 refine⟨inv.size,inv.keep,inv.os,inv.tape,inv.output,?_,inv.glob,?_,?_,?_⟩
 ·intro b p hp
  exact inv.ownb b p (J8 hp).1
 ·intro j
  by_cases hj:j=k
  ·subst hj;simp only[Ir,if_true];trivial
  ·have ho:=inv.objs j
   simp only[Ir,if_neg hj]
   cases hH:H j with
   | free=>trivial
   | dead=>trivial
   | var cs=>
    rw[hH]at ho
    obtain⟨b,o,vs,g1,g2,g3,g4,g5⟩:=ho
    refine⟨b,o,vs,g1,RI g2 hj,by simpa using g3,g4,?_⟩
    intro i v x hv hx
    simp only[List.getElem?_map,Option.map_eq_some_iff]at hv
    obtain⟨v0,hv0,rfl⟩:=hv
    exact Ahu inv (g5 i v0 x hv0 hx)
   | arr e t len cs=>rw[hH]at ho;exact Ad9 hj ho
   | tarr k2 off e t len cs=>
    rw[hH]at ho
    obtain⟨g1,g2,⟨g3,g4⟩,g5⟩:=ho
    simp only[M5]
    split
    ·exact Ad9 hj g1
    ·rename_i hk2
     refine⟨Ad9 hj g1,g2,⟨g3,?_⟩,?_⟩
     ·simp only[Ir,if_neg hk2]
      exact fun h=>g4 (Aas.1 h)
     ·intro ha
      simp only[Ir,if_neg hk2]at ha
      obtain⟨b,o,q1,q2,q3⟩:=g5 (by
       rw[EA]at ha⊢
       rw[XQ]at ha;exact ha)
      exact⟨b,o,q1,RI q2 hk2,q3⟩
 ·intro j hj hd
  refine inv.given j hj fun h=>hd ?_
  have hne:j≠k:=by omega
  simp only[Ir,if_neg hne,h,M5]
 ·intro j hj h
  have hne:j≠k:=by omega
  simp only[Ir,if_neg hne]at h
  exact inv.gfree j hj (Aas.1 h)
end
theorem QW (H:List O) (k j:Nat):hp ((H.map (M5 k)).set k .free) j=Ir (hp H) k j:=by
 unfold Ir hp
 by_cases hj:j=k
 ·subst hj
  rw[if_pos rfl,List.getD_eq_getElem?_getD,List.getElem?_set]
  simp
  split<;>rfl
 ·rw[if_neg hj,List.getD_eq_getElem?_getD,List.getElem?_set,if_neg (fun h=>hj h.symm),List.getElem?_map,List.getD_eq_getElem?_getD]
  cases H[j]? <;>rfl
structure Rel (F:Fr) (st:List Tmp) (nt:Nat) (β:Nat->Base) (own:Nat->Option (Nat×List Nat)) (s:St) (a:Act) (w:World):Prop where
 inv:Inv F β own (hp s.H) w
 env:∀(i:Nat) (t:Tmp),st[i]? =some t->VR F β own (hp s.H) w (s.env.getD i .undef) (a.tmps.getD t undef)
 nt:a.tmps.size=nt
 defers:a.defers=[]
theorem getD_map {α β:Type} (l:List α) (f:α->β) (i:Nat) (d:α) (d':β) (h:f d=d'):(l.map f).getD i d' =f (l.getD i d):=by
 simp only[List.getD_eq_getElem?_getD,List.getElem?_map]
 cases l[i]? <;>simp[h]
theorem Agp {F:Fr} {st:List Tmp} {nt:Nat} {β:Nat->Base} {own:Nat->Option (Nat×List Nat)} {s:St} {a:Act} {w:World} (r:Rel F st nt β own s a w) {k:Nat} (hk:F.ngiven<=k):
 Rel F st nt β (L6 own k) (kill s k) a w:=by
 have hH:hp (kill s k).H=Ir (hp s.H) k:=funext fun j=>QW s.H k j
 refine⟨by rw[hH];exact AmM r.inv hk,?_,r.nt,r.defers⟩
 intro i t hi
 rw[hH]
 show VR F β _ _ w ((s.env.map (OB k)).getD i .undef) _
 rw[getD_map (d:=V.undef) (h:=by simp[OB,m3,m2,m1])]
 exact Ahu r.inv (r.env i t hi)
theorem XI {F:Fr} {st:List Tmp} {nt:Nat} {a:Act} {w:World}:∀ {ks:List Nat} {β:Nat->Base} {own:Nat->Option (Nat×List Nat)} {s:St},Rel F st nt β own s a w->(∀k,k∈ks->F.ngiven<=k)->
 ∃own',Rel F st nt β own' (Dp s ks) a w
 | [],_,own,_,r,_=>⟨own,r⟩
 | k::ks,_,_,_,r,h=>XI (ks:=ks) (Agp r (h k (by simp))) fun k hk=>h k (by simp[hk])
end Go.Eng
