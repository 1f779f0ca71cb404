/- Own work: part 38 of the proof of FnStages. -/
import Derived.Test.YtdgpapmladligaaGreatEngAK
set_option linter.unusedSimpArgs false
set_option linter.unusedVariables false
namespace Go.Eng
def AeD (D:Dn) (c:Cf) (b:SC) (Q:Out→St→Prop):Out→St→Prop:=fun o s'=>match o with | .normal=>swp D c b Q s' | o=>Q o s'
def Aml (id:Nat) (Q:Out→St→Prop):Out→St→Prop:=fun o s'=>match o with | .exit i=>if i=id then Q .normal s' else Q (.exit i) s' | o=>Q o s'
def Anm (r:Ca) (Q:St→Prop) (env:List V):List V→List O→Prop:=fun vals H=>
 match Fy ⟨clear (sets vals env r.sets) r.clr,H⟩ r.Fy with
 | some s'=>Q s'
 | none=>False
def opK (D:Dn) (c:Cf) (env:List V) (tau:Option (List Nat)) (om:List Nat) (rest:List Jv) (vals:List V) (H:List O) (Q:List V→List O→Prop):V→DU→Prop:=
 fun v u=>okU tau om (hp H) u=true∧C8 D c env rest (vals++ [v]) (R4 H u) Q
def AbS (g:V) (t:Bool) (p q:Prop):Prop:=
 match g with
 | .sc (.bool b)=>if b=t then p else q
 | .tup []=>q
 | _=>False
def Alv (g:V) (p q:Prop):Prop:=
 match g with
 | .sc (.bool b)=>if b then p else q
 | _=>False
def ZV (rs:List Res) (n:Nat) (s:St) (res:V) (outs:List O):Prop:=
 match SQ s rs with
 | none=>False
 | some l=>match give (hp s.H) (tie l)with
  | some (v,0,ks)=>v=res∧outs=(List.range n).map fun i=>if ks.contains i then .dead else DV (hp s.H i)
  | _=>False
def AeO (rs:List Res) (n:Nat) (res:V) (outs:List O):Out→St→Prop:=fun o s=>match o with | .exit _=>False | _=>ZV rs n s res outs
section
variable {D:Dn} {c:Cf} {Q:Out→St→Prop} {s:St}
theorem ApO:swp D c .skip Q s=Q .normal s:=rfl
theorem Ato {r:Ca}:swp D c (.reg r) Q s=Aht D c r (Q .normal) s:=rfl
theorem Aum {a b:SC}:swp D c (.seq a b) Q s=swp D c a (AeD D c b Q) s:=rfl
theorem Aq4 {k:Nat} {a b:SC} {env:List V} {H:List O}:swp D c (.cond k a b) Q ⟨env,H⟩=Alv (env.getD k .undef) (swp D c a Q ⟨env.set k .undef,H⟩) (swp D c b Q ⟨env.set k .undef,H⟩):=rfl
theorem Amx {id:Nat} {a:SC}:swp D c (.block id a) Q s=swp D c a (Aml id Q) s:=rfl
theorem Arm {id:Nat}:swp D c (.exit id) Q s=Q (.exit id) s:=rfl
theorem AtU:swp D c .ret Q s=Q .ret s:=rfl
theorem Ana:swp D c .stuck Q s=False:=rfl
theorem AfR {b:SC}:AeD D c b Q .normal s=swp D c b Q s:=rfl
theorem Ajj {b:SC} {i:Nat}:AeD D c b Q (.exit i) s=Q (.exit i) s:=rfl
theorem AnU {b:SC}:AeD D c b Q .ret s=Q .ret s:=rfl
theorem AgZ {id:Nat}:Aml id Q .normal s=Q .normal s:=rfl
theorem Am0 {id i:Nat}:Aml id Q (.exit i) s=if i=id then Q .normal s else Q (.exit i) s:=rfl
theorem Aq6 {id:Nat}:Aml id Q .ret s=Q .ret s:=rfl
theorem Afs {rs:List Res} {n:Nat} {res:V} {outs:List O}:AeO rs n res outs .normal s=ZV rs n s res outs:=rfl
theorem Aoo {rs:List Res} {n:Nat} {res:V} {outs:List O}:AeO rs n res outs .ret s=ZV rs n s res outs:=rfl
theorem AkJ {rs:List Res} {n:Nat} {res:V} {outs:List O} {i:Nat}:AeO rs n res outs (.exit i) s=False:=rfl
theorem AtI {f:Ch} {args:List V} {given:List O} {res:V} {outs:List O}:Body D f args given res outs=
 (args.length=f.params.length∧given.length=f.ngiven∧swp D ⟨f.bor,f.takes⟩ f.body (AeO f.results f.ngiven res outs) (Xe f args given)):=rfl
theorem AtM {r:Ca} {Qs:St→Prop}:Aht D c r Qs s=C8 D c (Df s r.fresh).env r.ops [] (Df s r.fresh).H (Anm r Qs (Df s r.fresh).env):=rfl
theorem Akx {env vals:List V} {H:List O} {Q:List V→List O→Prop}:C8 D c env [] vals H Q=Q vals H:=rfl
theorem AiM {env vals:List V} {H:List O} {Q:List V→List O→Prop} {op:Lh} {tau:Option (List Nat)} {om:List Nat} {r:List Jv}:
 C8 D c env ({op:=op,guard:=none,tau:=tau,om:=om} ::r) vals H Q=stepW D c (masked tau (hp H)) (evs vals env) op (opK D c env tau om r vals H Q):=rfl
theorem AfF {env vals:List V} {H:List O} {Q:List V→List O→Prop} {op:Lh} {j:Nat} {t:Bool} {tau:Option (List Nat)} {om:List Nat} {r:List Jv}:
 C8 D c env ({op:=op,guard:=some (j,t),tau:=tau,om:=om} ::r) vals H Q=
  AbS (vals.getD j .undef) t (stepW D c (masked tau (hp H)) (evs vals env) op (opK D c env tau om r vals H Q)) (C8 D c env r (vals++ [.tup []]) H Q):=rfl
theorem Awj {env vals:List V} {H:List O} {Q:List V→List O→Prop} {tau:Option (List Nat)} {om:List Nat} {r:List Jv} {v:V} {u:DU}:
 opK D c env tau om r vals H Q v u=(okU tau om (hp H) u=true∧C8 D c env r (vals++ [v]) (R4 H u) Q):=rfl
theorem AxC {r:Ca} {Qs:St→Prop} {env vals:List V} {H:List O}:Anm r Qs env vals H=
 (match Fy ⟨clear (sets vals env r.sets) r.clr,H⟩ r.Fy with | some s'=>Qs s' | none=>False):=rfl
theorem AnK {b t:Bool} {p q:Prop}:AbS (.sc (.bool b)) t p q=if b=t then p else q:=rfl
theorem Ag7 {t:Bool} {p q:Prop}:AbS (.tup []) t p q=q:=rfl
theorem Aqe {b:Bool} {p q:Prop}:Alv (.sc (.bool b)) p q=if b then p else q:=rfl
end
end Go.Eng
