/- Own work: part 38 of the proof of FnExactStepDial. -/
import Derived.Test.YtdgpapmladligaaGreatEngAK
set_option linter.unusedSimpArgs false
set_option linter.unusedVariables false
namespace Go.Eng
def AmU (D:Dn) (c:Cf) (b:SC) (Q:Out→St→Prop):Out→St→Prop:=fun o s'=>match o with | .normal=>swp D c b Q s' | o=>Q o s'
def Axu (id:Nat) (Q:Out→St→Prop):Out→St→Prop:=fun o s'=>match o with | .exit i=>if i=id then Q .normal s' else Q (.exit i) s' | o=>Q o s'
def Aw6 (r:Br) (Q:St→Prop) (env:List V):List V→List O→Prop:=fun vals H=>
 match GV ⟨clear (sets vals env r.sets) r.clr,H⟩ r.GV with
 | some s'=>Q s'
 | none=>False
def opK (D:Dn) (c:Cf) (env:List V) (tau:Option (List Nat)) (om:List Nat) (rest:List Nq) (vals:List V) (H:List O) (Q:List V→List O→Prop):V→ES→Prop:=
 fun v u=>okU tau om (hp H) u=true∧F8 D c env rest (vals++ [v]) (AbI H u) Q
def Ai2 (g:V) (t:Bool) (p q:Prop):Prop:=
 match g with
 | .sc (.bool b)=>if b=t then p else q
 | .tup []=>q
 | _=>False
def Au4 (g:V) (p q:Prop):Prop:=
 match g with
 | .sc (.bool b)=>if b then p else q
 | _=>False
def Ahr (rs:List Res) (n:Nat) (s:St) (res:V) (outs:List O):Prop:=
 match AeQ s rs with
 | none=>False
 | some l=>match give (hp s.H) (tie l)with
  | some (v,0,ks)=>v=res∧outs=(List.range n).map fun i=>if ks.contains i then .dead else Ali (hp s.H i)
  | _=>False
def Amt (rs:List Res) (n:Nat) (res:V) (outs:List O):Out→St→Prop:=fun o s=>match o with | .exit _=>False | _=>Ahr rs n s res outs
section
variable {D:Dn} {c:Cf} {Q:Out→St→Prop} {s:St}
theorem AyA:swp D c .skip Q s=Q .normal s:=rfl
theorem ABE {r:Br}:swp D c (.reg r) Q s=Awj D c r (Q .normal) s:=rfl
theorem ACM {a b:SC}:swp D c (.seq a b) Q s=swp D c a (AmU D c b Q) s:=rfl
theorem AAa {k:Nat} {a b:SC} {env:List V} {H:List O}:swp D c (.cond k a b) Q ⟨env,H⟩=Au4 (env.getD k .undef) (swp D c a Q ⟨env.set k .undef,H⟩) (swp D c b Q ⟨env.set k .undef,H⟩):=rfl
theorem AwK {id:Nat} {a:SC}:swp D c (.block id a) Q s=swp D c a (Axu id Q) s:=rfl
theorem AyW {id:Nat}:swp D c (.exit id) Q s=Q (.exit id) s:=rfl
theorem ABT:swp D c .ret Q s=Q .ret s:=rfl
theorem AvQ:swp D c .stuck Q s=False:=rfl
theorem AnX {b:SC}:AmU D c b Q .normal s=swp D c b Q s:=rfl
theorem AsW {b:SC} {i:Nat}:AmU D c b Q (.exit i) s=Q (.exit i) s:=rfl
theorem AvZ {b:SC}:AmU D c b Q .ret s=Q .ret s:=rfl
theorem ArR {id:Nat}:Axu id Q .normal s=Q .normal s:=rfl
theorem Axp {id i:Nat}:Axu id Q (.exit i) s=if i=id then Q .normal s else Q (.exit i) s:=rfl
theorem AAr {id:Nat}:Axu id Q .ret s=Q .ret s:=rfl
theorem Anz {rs:List Res} {n:Nat} {res:V} {outs:List O}:Amt rs n res outs .normal s=Ahr rs n s res outs:=rfl
theorem Awh {rs:List Res} {n:Nat} {res:V} {outs:List O}:Amt rs n res outs .ret s=Ahr rs n s res outs:=rfl
theorem AtT {rs:List Res} {n:Nat} {res:V} {outs:List O} {i:Nat}:Amt rs n res outs (.exit i) s=False:=rfl
theorem ACf {f:Bw} {args:List V} {given:List O} {res:V} {outs:List O}:Body D f args given res outs=
 (args.length=f.params.length∧given.length=f.ngiven∧swp D ⟨f.bor,f.takes⟩ f.body (Amt f.results f.ngiven res outs) (Aoz f args given)):=rfl
theorem ABF {r:Br} {Qs:St→Prop}:Awj D c r Qs s=F8 D c (En s r.fresh).env r.ops [] (En s r.fresh).H (Aw6 r Qs (En s r.fresh).env):=rfl
theorem AsO {env vals:List V} {H:List O} {Q:List V→List O→Prop}:F8 D c env [] vals H Q=Q vals H:=rfl
theorem AqH {env vals:List V} {H:List O} {Q:List V→List O→Prop} {op:HV} {tau:Option (List Nat)} {om:List Nat} {r:List Nq}:
 F8 D c env ({op:=op,guard:=none,tau:=tau,om:=om} ::r) vals H Q=stepW D c (masked tau (hp H)) (evs vals env) op (opK D c env tau om r vals H Q):=rfl
theorem Ans {env vals:List V} {H:List O} {Q:List V→List O→Prop} {op:HV} {j:Nat} {t:Bool} {tau:Option (List Nat)} {om:List Nat} {r:List Nq}:
 F8 D c env ({op:=op,guard:=some (j,t),tau:=tau,om:=om} ::r) vals H Q=
  Ai2 (vals.getD j .undef) t (stepW D c (masked tau (hp H)) (evs vals env) op (opK D c env tau om r vals H Q)) (F8 D c env r (vals++ [.tup []]) H Q):=rfl
theorem AEU {env vals:List V} {H:List O} {Q:List V→List O→Prop} {tau:Option (List Nat)} {om:List Nat} {r:List Nq} {v:V} {u:ES}:
 opK D c env tau om r vals H Q v u=(okU tau om (hp H) u=true∧F8 D c env r (vals++ [v]) (AbI H u) Q):=rfl
theorem AF4 {r:Br} {Qs:St→Prop} {env vals:List V} {H:List O}:Aw6 r Qs env vals H=
 (match GV ⟨clear (sets vals env r.sets) r.clr,H⟩ r.GV with | some s'=>Qs s' | none=>False):=rfl
theorem AwP {b t:Bool} {p q:Prop}:Ai2 (.sc (.bool b)) t p q=if b=t then p else q:=rfl
theorem Aru {t:Bool} {p q:Prop}:Ai2 (.tup []) t p q=q:=rfl
theorem AAA {b:Bool} {p q:Prop}:Au4 (.sc (.bool b)) p q=if b then p else q:=rfl
end
end Go.Eng
