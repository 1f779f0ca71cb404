/- Own work: part 38 of the proof of FnExactIsTogether. -/
import Derived.Test.YtdgpapmladligaaGreatEngAK
set_option linter.unusedSimpArgs false
set_option linter.unusedVariables false
namespace Go.Eng
def Ajh (D:Dn) (c:Cf) (b:SC) (Q:Out→St→Prop):Out→St→Prop:=fun o s'=>match o with | .normal=>swp D c b Q s' | o=>Q o s'
def AsV (id:Nat) (Q:Out→St→Prop):Out→St→Prop:=fun o s'=>match o with | .exit i=>if i=id then Q .normal s' else Q (.exit i) s' | o=>Q o s'
def Atj (r:Bv) (Q:St→Prop) (env:List V):List V→List O→Prop:=fun vals H=>
 match Gn ⟨clear (sets vals env r.sets) r.clr,H⟩ r.Gn with
 | some s'=>Q s'
 | none=>False
def opK (D:Dn) (c:Cf) (env:List V) (tau:Option (List Nat)) (om:List Nat) (rest:List ME) (vals:List V) (H:List O) (Q:List V→List O→Prop):V→Et→Prop:=
 fun v u=>okU tau om (hp H) u=true∧FN D c env rest (vals++ [v]) (Aao H u) Q
def AeA (g:V) (t:Bool) (p q:Prop):Prop:=
 match g with
 | .sc (.bool b)=>if b=t then p else q
 | .tup []=>q
 | _=>False
def AqO (g:V) (p q:Prop):Prop:=
 match g with
 | .sc (.bool b)=>if b then p else q
 | _=>False
def Aei (rs:List Res) (n:Nat) (s:St) (res:V) (outs:List O):Prop:=
 match Acz s rs with
 | none=>False
 | some l=>match give (hp s.H) (tie l)with
  | some (v,0,ks)=>v=res∧outs=(List.range n).map fun i=>if ks.contains i then .dead else AAY (hp s.H i)
  | _=>False
def AjH (rs:List Res) (n:Nat) (res:V) (outs:List O):Out→St→Prop:=fun o s=>match o with | .exit _=>False | _=>Aei rs n s res outs
section
variable {D:Dn} {c:Cf} {Q:Out→St→Prop} {s:St}
theorem AvE:swp D c .skip Q s=Q .normal s:=rfl
theorem Ayq {r:Bv}:swp D c (.reg r) Q s=Atr D c r (Q .normal) s:=rfl
theorem Ayh {a b:SC}:swp D c (.seq a b) Q s=swp D c a (Ajh D c b Q) s:=rfl
theorem AuT {k:Nat} {a b:SC} {env:List V} {H:List O}:swp D c (.cond k a b) Q ⟨env,H⟩=AqO (env.getD k .undef) (swp D c a Q ⟨env.set k .undef,H⟩) (swp D c b Q ⟨env.set k .undef,H⟩):=rfl
theorem ArC {id:Nat} {a:SC}:swp D c (.block id a) Q s=swp D c a (AsV id Q) s:=rfl
theorem Awm {id:Nat}:swp D c (.exit id) Q s=Q (.exit id) s:=rfl
theorem AzA:swp D c .ret Q s=Q .ret s:=rfl
theorem ArR:swp D c .stuck Q s=False:=rfl
theorem Ak1 {b:SC}:Ajh D c b Q .normal s=swp D c b Q s:=rfl
theorem ApV {b:SC} {i:Nat}:Ajh D c b Q (.exit i) s=Q (.exit i) s:=rfl
theorem ArD {b:SC}:Ajh D c b Q .ret s=Q .ret s:=rfl
theorem Al5 {id:Nat}:AsV id Q .normal s=Q .normal s:=rfl
theorem Asb {id i:Nat}:AsV id Q (.exit i) s=if i=id then Q .normal s else Q (.exit i) s:=rfl
theorem Au5 {id:Nat}:AsV id Q .ret s=Q .ret s:=rfl
theorem AkW {rs:List Res} {n:Nat} {res:V} {outs:List O}:AjH rs n res outs .normal s=Aei rs n s res outs:=rfl
theorem Asd {rs:List Res} {n:Nat} {res:V} {outs:List O}:AjH rs n res outs .ret s=Aei rs n s res outs:=rfl
theorem Aqd {rs:List Res} {n:Nat} {res:V} {outs:List O} {i:Nat}:AjH rs n res outs (.exit i) s=False:=rfl
theorem Azl {f:BA} {args:List V} {given:List O} {res:V} {outs:List O}:Body D f args given res outs=
 (args.length=f.params.length∧given.length=f.ngiven∧swp D ⟨f.bor,f.takes⟩ f.body (AjH f.results f.ngiven res outs) (Akm f args given)):=rfl
theorem Azf {r:Bv} {Qs:St→Prop}:Atr D c r Qs s=FN D c (DK s r.fresh).env r.ops [] (DK s r.fresh).H (Atj r Qs (DK s r.fresh).env):=rfl
theorem Aqf {env vals:List V} {H:List O} {Q:List V→List O→Prop}:FN D c env [] vals H Q=Q vals H:=rfl
theorem Am3 {env vals:List V} {H:List O} {Q:List V→List O→Prop} {op:I9} {tau:Option (List Nat)} {om:List Nat} {r:List ME}:
 FN D c env ({op:=op,guard:=none,tau:=tau,om:=om} ::r) vals H Q=stepW D c (masked tau (hp H)) (evs vals env) op (opK D c env tau om r vals H Q):=rfl
theorem AkL {env vals:List V} {H:List O} {Q:List V→List O→Prop} {op:I9} {j:Nat} {t:Bool} {tau:Option (List Nat)} {om:List Nat} {r:List ME}:
 FN D c env ({op:=op,guard:=some (j,t),tau:=tau,om:=om} ::r) vals H Q=
  AeA (vals.getD j .undef) t (stepW D c (masked tau (hp H)) (evs vals env) op (opK D c env tau om r vals H Q)) (FN D c env r (vals++ [.tup []]) H Q):=rfl
theorem AAL {env vals:List V} {H:List O} {Q:List V→List O→Prop} {tau:Option (List Nat)} {om:List Nat} {r:List ME} {v:V} {u:Et}:
 opK D c env tau om r vals H Q v u=(okU tau om (hp H) u=true∧FN D c env r (vals++ [v]) (Aao H u) Q):=rfl
theorem ACz {r:Bv} {Qs:St→Prop} {env vals:List V} {H:List O}:Atj r Qs env vals H=
 (match Gn ⟨clear (sets vals env r.sets) r.clr,H⟩ r.Gn with | some s'=>Qs s' | none=>False):=rfl
theorem Atn {b t:Bool} {p q:Prop}:AeA (.sc (.bool b)) t p q=if b=t then p else q:=rfl
theorem Am4 {t:Bool} {p q:Prop}:AeA (.tup []) t p q=q:=rfl
theorem Avc {b:Bool} {p q:Prop}:AqO (.sc (.bool b)) p q=if b then p else q:=rfl
end
end Go.Eng
