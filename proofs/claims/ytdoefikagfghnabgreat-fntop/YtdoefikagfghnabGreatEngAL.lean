/- Own work: part 38 of the proof of FnTop. -/
import Derived.Test.YtdoefikagfghnabGreatEngAK
set_option linter.unusedSimpArgs false
set_option linter.unusedVariables false
namespace Go.Eng
def AjX (D:Dn) (c:Cf) (b:SC) (Q:Out→St→Prop):Out→St→Prop:=fun o s'=>match o with | .normal=>swp D c b Q s' | o=>Q o s'
def AuM (id:Nat) (Q:Out→St→Prop):Out→St→Prop:=fun o s'=>match o with | .exit i=>if i=id then Q .normal s' else Q (.exit i) s' | o=>Q o s'
def Atc (r:Bu) (Q:St→Prop) (env:List V):List V→List O→Prop:=fun vals H=>
 match F9 ⟨clear (sets vals env r.sets) r.clr,H⟩ r.F9 with
 | some s'=>Q s'
 | none=>False
def opK (D:Dn) (c:Cf) (env:List V) (tau:Option (List Nat)) (om:List Nat) (rest:List LF) (vals:List V) (H:List O) (Q:List V→List O→Prop):V→Ec→Prop:=
 fun v u=>okU tau om (hp H) u=true∧Dm D c env rest (vals++ [v]) (WR H u) Q
def Af5 (g:V) (t:Bool) (p q:Prop):Prop:=
 match g with
 | .sc (.bool b)=>if b=t then p else q
 | .tup []=>q
 | _=>False
def AsA (g:V) (p q:Prop):Prop:=
 match g with
 | .sc (.bool b)=>if b then p else q
 | _=>False
def AeR (rs:List Res) (n:Nat) (s:St) (res:V) (outs:List O):Prop:=
 match Xd s rs with
 | none=>False
 | some l=>match give (hp s.H) (tie l)with
  | some (v,0,ks)=>v=res∧outs=(List.range n).map fun i=>if ks.contains i then .dead else NS (hp s.H i)
  | _=>False
def Aj9 (rs:List Res) (n:Nat) (res:V) (outs:List O):Out→St→Prop:=fun o s=>match o with | .exit _=>False | _=>AeR rs n s res outs
section
variable {D:Dn} {c:Cf} {Q:Out→St→Prop} {s:St}
theorem Axj:swp D c .skip Q s=Q .normal s:=rfl
theorem AzW {r:Bu}:swp D c (.reg r) Q s=AoK D c r (Q .normal) s:=rfl
theorem Azq {a b:SC}:swp D c (.seq a b) Q s=swp D c a (AjX D c b Q) s:=rfl
theorem Aw5 {k:Nat} {a b:SC} {env:List V} {H:List O}:swp D c (.cond k a b) Q ⟨env,H⟩=AsA (env.getD k .undef) (swp D c a Q ⟨env.set k .undef,H⟩) (swp D c b Q ⟨env.set k .undef,H⟩):=rfl
theorem AuB {id:Nat} {a:SC}:swp D c (.block id a) Q s=swp D c a (AuM id Q) s:=rfl
theorem Awe {id:Nat}:swp D c (.exit id) Q s=Q (.exit id) s:=rfl
theorem Az0:swp D c .ret Q s=Q .ret s:=rfl
theorem AsS:swp D c .stuck Q s=False:=rfl
theorem Amd {b:SC}:AjX D c b Q .normal s=swp D c b Q s:=rfl
theorem Aq0 {b:SC} {i:Nat}:AjX D c b Q (.exit i) s=Q (.exit i) s:=rfl
theorem AsW {b:SC}:AjX D c b Q .ret s=Q .ret s:=rfl
theorem Aox {id:Nat}:AuM id Q .normal s=Q .normal s:=rfl
theorem AuA {id i:Nat}:AuM id Q (.exit i) s=if i=id then Q .normal s else Q (.exit i) s:=rfl
theorem AxK {id:Nat}:AuM id Q .ret s=Q .ret s:=rfl
theorem Alo {rs:List Res} {n:Nat} {res:V} {outs:List O}:Aj9 rs n res outs .normal s=AeR rs n s res outs:=rfl
theorem Atu {rs:List Res} {n:Nat} {res:V} {outs:List O}:Aj9 rs n res outs .ret s=AeR rs n s res outs:=rfl
theorem AqK {rs:List Res} {n:Nat} {res:V} {outs:List O} {i:Nat}:Aj9 rs n res outs (.exit i) s=False:=rfl
theorem AzM {f:Bw} {args:List V} {given:List O} {res:V} {outs:List O}:Body D f args given res outs=
 (args.length=f.params.length∧given.length=f.ngiven∧swp D ⟨f.bor,f.takes⟩ f.body (Aj9 f.results f.ngiven res outs) (Abg f args given)):=rfl
theorem AAe {r:Bu} {Qs:St→Prop}:AoK D c r Qs s=Dm D c (Dp s r.fresh).env r.ops [] (Dp s r.fresh).H (Atc r Qs (Dp s r.fresh).env):=rfl
theorem AqT {env vals:List V} {H:List O} {Q:List V→List O→Prop}:Dm D c env [] vals H Q=Q vals H:=rfl
theorem Apd {env vals:List V} {H:List O} {Q:List V→List O→Prop} {op:LD} {tau:Option (List Nat)} {om:List Nat} {r:List LF}:
 Dm D c env ({op:=op,guard:=none,tau:=tau,om:=om} ::r) vals H Q=stepW D c (masked tau (hp H)) (evs vals env) op (opK D c env tau om r vals H Q):=rfl
theorem Amf {env vals:List V} {H:List O} {Q:List V→List O→Prop} {op:LD} {j:Nat} {t:Bool} {tau:Option (List Nat)} {om:List Nat} {r:List LF}:
 Dm D c env ({op:=op,guard:=some (j,t),tau:=tau,om:=om} ::r) vals H Q=
  Af5 (vals.getD j .undef) t (stepW D c (masked tau (hp H)) (evs vals env) op (opK D c env tau om r vals H Q)) (Dm D c env r (vals++ [.tup []]) H Q):=rfl
theorem ACq {env vals:List V} {H:List O} {Q:List V→List O→Prop} {tau:Option (List Nat)} {om:List Nat} {r:List LF} {v:V} {u:Ec}:
 opK D c env tau om r vals H Q v u=(okU tau om (hp H) u=true∧Dm D c env r (vals++ [v]) (WR H u) Q):=rfl
theorem AER {r:Bu} {Qs:St→Prop} {env vals:List V} {H:List O}:Atc r Qs env vals H=
 (match F9 ⟨clear (sets vals env r.sets) r.clr,H⟩ r.F9 with | some s'=>Qs s' | none=>False):=rfl
theorem Ats {b t:Bool} {p q:Prop}:Af5 (.sc (.bool b)) t p q=if b=t then p else q:=rfl
theorem Ant {t:Bool} {p q:Prop}:Af5 (.tup []) t p q=q:=rfl
theorem Ax3 {b:Bool} {p q:Prop}:AsA (.sc (.bool b)) p q=if b then p else q:=rfl
end
end Go.Eng
