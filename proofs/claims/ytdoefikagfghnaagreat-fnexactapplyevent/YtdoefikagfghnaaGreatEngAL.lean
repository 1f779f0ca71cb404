/- Own work: part 38 of the proof of FnExactApplyEvent. -/
import Derived.Test.YtdoefikagfghnaaGreatEngAK
set_option linter.unusedSimpArgs false
set_option linter.unusedVariables false
namespace Go.Eng
def AnL (D:Dn) (c:Cf) (b:SC) (Q:Out→St→Prop):Out→St→Prop:=fun o s'=>match o with | .normal=>swp D c b Q s' | o=>Q o s'
def AxK (id:Nat) (Q:Out→St→Prop):Out→St→Prop:=fun o s'=>match o with | .exit i=>if i=id then Q .normal s' else Q (.exit i) s' | o=>Q o s'
def AxC (r:Bc) (Q:St→Prop) (env:List V):List V→List O→Prop:=fun vals H=>
 match Ie ⟨clear (sets vals env r.sets) r.clr,H⟩ r.Ie with
 | some s'=>Q s'
 | none=>False
def opK (D:Dn) (c:Cf) (env:List V) (tau:Option (List Nat)) (om:List Nat) (rest:List Oy) (vals:List V) (H:List O) (Q:List V→List O→Prop):V→Fb→Prop:=
 fun v u=>okU tau om (hp H) u=true∧Gy D c env rest (vals++ [v]) (Ack H u) Q
def AkT (g:V) (t:Bool) (p q:Prop):Prop:=
 match g with
 | .sc (.bool b)=>if b=t then p else q
 | .tup []=>q
 | _=>False
def AvV (g:V) (p q:Prop):Prop:=
 match g with
 | .sc (.bool b)=>if b then p else q
 | _=>False
def Ah3 (rs:List Res) (n:Nat) (s:St) (res:V) (outs:List O):Prop:=
 match AfL s rs with
 | none=>False
 | some l=>match give (hp s.H) (tie l)with
  | some (v,0,ks)=>v=res∧outs=(List.range n).map fun i=>if ks.contains i then .dead else AF5 (hp s.H i)
  | _=>False
def Aoo (rs:List Res) (n:Nat) (res:V) (outs:List O):Out→St→Prop:=fun o s=>match o with | .exit _=>False | _=>Ah3 rs n s res outs
section
variable {D:Dn} {c:Cf} {Q:Out→St→Prop} {s:St}
theorem ABm:swp D c .skip Q s=Q .normal s:=rfl
theorem ADB {r:Bc}:swp D c (.reg r) Q s=Ayn D c r (Q .normal) s:=rfl
theorem ADA {a b:SC}:swp D c (.seq a b) Q s=swp D c a (AnL D c b Q) s:=rfl
theorem ABo {k:Nat} {a b:SC} {env:List V} {H:List O}:swp D c (.cond k a b) Q ⟨env,H⟩=AvV (env.getD k .undef) (swp D c a Q ⟨env.set k .undef,H⟩) (swp D c b Q ⟨env.set k .undef,H⟩):=rfl
theorem AxF {id:Nat} {a:SC}:swp D c (.block id a) Q s=swp D c a (AxK id Q) s:=rfl
theorem AAN {id:Nat}:swp D c (.exit id) Q s=Q (.exit id) s:=rfl
theorem ADK:swp D c .ret Q s=Q .ret s:=rfl
theorem Axu:swp D c .stuck Q s=False:=rfl
theorem Aow {b:SC}:AnL D c b Q .normal s=swp D c b Q s:=rfl
theorem AtW {b:SC} {i:Nat}:AnL D c b Q (.exit i) s=Q (.exit i) s:=rfl
theorem AxH {b:SC}:AnL D c b Q .ret s=Q .ret s:=rfl
theorem Ary {id:Nat}:AxK id Q .normal s=Q .normal s:=rfl
theorem Axz {id i:Nat}:AxK id Q (.exit i) s=if i=id then Q .normal s else Q (.exit i) s:=rfl
theorem AAX {id:Nat}:AxK id Q .ret s=Q .ret s:=rfl
theorem AoE {rs:List Res} {n:Nat} {res:V} {outs:List O}:Aoo rs n res outs .normal s=Ah3 rs n s res outs:=rfl
theorem Ayk {rs:List Res} {n:Nat} {res:V} {outs:List O}:Aoo rs n res outs .ret s=Ah3 rs n s res outs:=rfl
theorem Avj {rs:List Res} {n:Nat} {res:V} {outs:List O} {i:Nat}:Aoo rs n res outs (.exit i) s=False:=rfl
theorem AEw {f:Bh} {args:List V} {given:List O} {res:V} {outs:List O}:Body D f args given res outs=
 (args.length=f.params.length∧given.length=f.ngiven∧swp D ⟨f.bor,f.takes⟩ f.body (Aoo f.results f.ngiven res outs) (Aql f args given)):=rfl
theorem ADX {r:Bc} {Qs:St→Prop}:Ayn D c r Qs s=Gy D c (Ej s r.fresh).env r.ops [] (Ej s r.fresh).H (AxC r Qs (Ej s r.fresh).env):=rfl
theorem At1 {env vals:List V} {H:List O} {Q:List V→List O→Prop}:Gy D c env [] vals H Q=Q vals H:=rfl
theorem AqV {env vals:List V} {H:List O} {Q:List V→List O→Prop} {op:Ki} {tau:Option (List Nat)} {om:List Nat} {r:List Oy}:
 Gy D c env ({op:=op,guard:=none,tau:=tau,om:=om} ::r) vals H Q=stepW D c (masked tau (hp H)) (evs vals env) op (opK D c env tau om r vals H Q):=rfl
theorem Ap4 {env vals:List V} {H:List O} {Q:List V→List O→Prop} {op:Ki} {j:Nat} {t:Bool} {tau:Option (List Nat)} {om:List Nat} {r:List Oy}:
 Gy D c env ({op:=op,guard:=some (j,t),tau:=tau,om:=om} ::r) vals H Q=
  AkT (vals.getD j .undef) t (stepW D c (masked tau (hp H)) (evs vals env) op (opK D c env tau om r vals H Q)) (Gy D c env r (vals++ [.tup []]) H Q):=rfl
theorem AFO {env vals:List V} {H:List O} {Q:List V→List O→Prop} {tau:Option (List Nat)} {om:List Nat} {r:List Oy} {v:V} {u:Fb}:
 opK D c env tau om r vals H Q v u=(okU tau om (hp H) u=true∧Gy D c env r (vals++ [v]) (Ack H u) Q):=rfl
theorem AHe {r:Bc} {Qs:St→Prop} {env vals:List V} {H:List O}:AxC r Qs env vals H=
 (match Ie ⟨clear (sets vals env r.sets) r.clr,H⟩ r.Ie with | some s'=>Qs s' | none=>False):=rfl
theorem AxX {b t:Bool} {p q:Prop}:AkT (.sc (.bool b)) t p q=if b=t then p else q:=rfl
theorem ArQ {t:Bool} {p q:Prop}:AkT (.tup []) t p q=q:=rfl
theorem AB4 {b:Bool} {p q:Prop}:AvV (.sc (.bool b)) p q=if b then p else q:=rfl
end
end Go.Eng
