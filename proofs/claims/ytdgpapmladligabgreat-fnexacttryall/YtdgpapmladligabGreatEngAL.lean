/- Own work: part 38 of the proof of FnExactTryAll. -/
import Derived.Test.YtdgpapmladligabGreatEngAK
set_option linter.unusedSimpArgs false
set_option linter.unusedVariables false
namespace Go.Eng
def Ape (D:Dn) (c:Cf) (b:SC) (Q:Out→St→Prop):Out→St→Prop:=fun o s'=>match o with | .normal=>swp D c b Q s' | o=>Q o s'
def AyU (id:Nat) (Q:Out→St→Prop):Out→St→Prop:=fun o s'=>match o with | .exit i=>if i=id then Q .normal s' else Q (.exit i) s' | o=>Q o s'
def AyI (r:Bj) (Q:St→Prop) (env:List V):List V→List O→Prop:=fun vals H=>
 match IJ ⟨clear (sets vals env r.sets) r.clr,H⟩ r.IJ with
 | some s'=>Q s'
 | none=>False
def opK (D:Dn) (c:Cf) (env:List V) (tau:Option (List Nat)) (om:List Nat) (rest:List NM) (vals:List V) (H:List O) (Q:List V→List O→Prop):V→EY→Prop:=
 fun v u=>okU tau om (hp H) u=true∧Ej D c env rest (vals++ [v]) (ZY H u) Q
def Alq (g:V) (t:Bool) (p q:Prop):Prop:=
 match g with
 | .sc (.bool b)=>if b=t then p else q
 | .tup []=>q
 | _=>False
def AxB (g:V) (p q:Prop):Prop:=
 match g with
 | .sc (.bool b)=>if b then p else q
 | _=>False
def Ajr (rs:List Res) (n:Nat) (s:St) (res:V) (outs:List O):Prop:=
 match AaB s rs with
 | none=>False
 | some l=>match give (hp s.H) (tie l)with
  | some (v,0,ks)=>v=res∧outs=(List.range n).map fun i=>if ks.contains i then .dead else IQ (hp s.H i)
  | _=>False
def Apc (rs:List Res) (n:Nat) (res:V) (outs:List O):Out→St→Prop:=fun o s=>match o with | .exit _=>False | _=>Ajr rs n s res outs
section
variable {D:Dn} {c:Cf} {Q:Out→St→Prop} {s:St}
theorem ACt:swp D c .skip Q s=Q .normal s:=rfl
theorem AF1 {r:Bj}:swp D c (.reg r) Q s=AuE D c r (Q .normal) s:=rfl
theorem AE6 {a b:SC}:swp D c (.seq a b) Q s=swp D c a (Ape D c b Q) s:=rfl
theorem ACm {k:Nat} {a b:SC} {env:List V} {H:List O}:swp D c (.cond k a b) Q ⟨env,H⟩=AxB (env.getD k .undef) (swp D c a Q ⟨env.set k .undef,H⟩) (swp D c b Q ⟨env.set k .undef,H⟩):=rfl
theorem Azu {id:Nat} {a:SC}:swp D c (.block id a) Q s=swp D c a (AyU id Q) s:=rfl
theorem ABN {id:Nat}:swp D c (.exit id) Q s=Q (.exit id) s:=rfl
theorem AFi:swp D c .ret Q s=Q .ret s:=rfl
theorem AzV:swp D c .stuck Q s=False:=rfl
theorem AqE {b:SC}:Ape D c b Q .normal s=swp D c b Q s:=rfl
theorem Aw8 {b:SC} {i:Nat}:Ape D c b Q (.exit i) s=Q (.exit i) s:=rfl
theorem AAq {b:SC}:Ape D c b Q .ret s=Q .ret s:=rfl
theorem At3 {id:Nat}:AyU id Q .normal s=Q .normal s:=rfl
theorem AzI {id i:Nat}:AyU id Q (.exit i) s=if i=id then Q .normal s else Q (.exit i) s:=rfl
theorem ACp {id:Nat}:AyU id Q .ret s=Q .ret s:=rfl
theorem ApQ {rs:List Res} {n:Nat} {res:V} {outs:List O}:Apc rs n res outs .normal s=Ajr rs n s res outs:=rfl
theorem AAM {rs:List Res} {n:Nat} {res:V} {outs:List O}:Apc rs n res outs .ret s=Ajr rs n s res outs:=rfl
theorem Awy {rs:List Res} {n:Nat} {res:V} {outs:List O} {i:Nat}:Apc rs n res outs (.exit i) s=False:=rfl
theorem AE9 {f:Bl} {args:List V} {given:List O} {res:V} {outs:List O}:Body D f args given res outs=
 (args.length=f.params.length∧given.length=f.ngiven∧swp D ⟨f.bor,f.takes⟩ f.body (Apc f.results f.ngiven res outs) (AeD f args given)):=rfl
theorem AFl {r:Bj} {Qs:St→Prop}:AuE D c r Qs s=Ej D c (Ez s r.fresh).env r.ops [] (Ez s r.fresh).H (AyI r Qs (Ez s r.fresh).env):=rfl
theorem Awl {env vals:List V} {H:List O} {Q:List V→List O→Prop}:Ej D c env [] vals H Q=Q vals H:=rfl
theorem At6 {env vals:List V} {H:List O} {Q:List V→List O→Prop} {op:Lu} {tau:Option (List Nat)} {om:List Nat} {r:List NM}:
 Ej D c env ({op:=op,guard:=none,tau:=tau,om:=om} ::r) vals H Q=stepW D c (masked tau (hp H)) (evs vals env) op (opK D c env tau om r vals H Q):=rfl
theorem Aqa {env vals:List V} {H:List O} {Q:List V→List O→Prop} {op:Lu} {j:Nat} {t:Bool} {tau:Option (List Nat)} {om:List Nat} {r:List NM}:
 Ej D c env ({op:=op,guard:=some (j,t),tau:=tau,om:=om} ::r) vals H Q=
  Alq (vals.getD j .undef) t (stepW D c (masked tau (hp H)) (evs vals env) op (opK D c env tau om r vals H Q)) (Ej D c env r (vals++ [.tup []]) H Q):=rfl
theorem AGJ {env vals:List V} {H:List O} {Q:List V→List O→Prop} {tau:Option (List Nat)} {om:List Nat} {r:List NM} {v:V} {u:EY}:
 opK D c env tau om r vals H Q v u=(okU tau om (hp H) u=true∧Ej D c env r (vals++ [v]) (ZY H u) Q):=rfl
theorem AI2 {r:Bj} {Qs:St→Prop} {env vals:List V} {H:List O}:AyI r Qs env vals H=
 (match IJ ⟨clear (sets vals env r.sets) r.clr,H⟩ r.IJ with | some s'=>Qs s' | none=>False):=rfl
theorem AAE {b t:Bool} {p q:Prop}:Alq (.sc (.bool b)) t p q=if b=t then p else q:=rfl
theorem AtW {t:Bool} {p q:Prop}:Alq (.tup []) t p q=q:=rfl
theorem AB4 {b:Bool} {p q:Prop}:AxB (.sc (.bool b)) p q=if b then p else q:=rfl
end
end Go.Eng
