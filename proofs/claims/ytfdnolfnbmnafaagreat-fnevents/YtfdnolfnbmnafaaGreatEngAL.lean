/- Own work: part 38 of the proof of FnEvents. -/
import Derived.Test.YtfdnolfnbmnafaaGreatEngAK
set_option linter.unusedSimpArgs false
set_option linter.unusedVariables false
namespace Go.Eng
def Auh (D:Dn) (c:Cf) (b:SC) (Q:Out→St→Prop):Out→St→Prop:=fun o s'=>match o with | .normal=>swp D c b Q s' | o=>Q o s'
def AEQ (id:Nat) (Q:Out→St→Prop):Out→St→Prop:=fun o s'=>match o with | .exit i=>if i=id then Q .normal s' else Q (.exit i) s' | o=>Q o s'
def AFc (r:Bl) (Q:St→Prop) (env:List V):List V→List O→Prop:=fun vals H=>
 match JK ⟨clear (sets vals env r.sets) r.clr,H⟩ r.JK with
 | some s'=>Q s'
 | none=>False
def opK (D:Dn) (c:Cf) (env:List V) (tau:Option (List Nat)) (om:List Nat) (rest:List Qq) (vals:List V) (H:List O) (Q:List V→List O→Prop):V→Gq→Prop:=
 fun v u=>okU tau om (hp H) u=true∧IX D c env rest (vals++ [v]) (Ahj H u) Q
def AoR (g:V) (t:Bool) (p q:Prop):Prop:=
 match g with
 | .sc (.bool b)=>if b=t then p else q
 | .tup []=>q
 | _=>False
def ADB (g:V) (p q:Prop):Prop:=
 match g with
 | .sc (.bool b)=>if b then p else q
 | _=>False
def Ant (rs:List Res) (n:Nat) (s:St) (res:V) (outs:List O):Prop:=
 match AkC s rs with
 | none=>False
 | some l=>match give (hp s.H) (tie l)with
  | some (v,0,ks)=>v=res∧outs=(List.range n).map fun i=>if ks.contains i then .dead else AhE (hp s.H i)
  | _=>False
def Aut (rs:List Res) (n:Nat) (res:V) (outs:List O):Out→St→Prop:=fun o s=>match o with | .exit _=>False | _=>Ant rs n s res outs
section
variable {D:Dn} {c:Cf} {Q:Out→St→Prop} {s:St}
theorem AHe:swp D c .skip Q s=Q .normal s:=rfl
theorem AKB {r:Bl}:swp D c (.reg r) Q s=AEM D c r (Q .normal) s:=rfl
theorem AJW {a b:SC}:swp D c (.seq a b) Q s=swp D c a (Auh D c b Q) s:=rfl
theorem AIO {k:Nat} {a b:SC} {env:List V} {H:List O}:swp D c (.cond k a b) Q ⟨env,H⟩=ADB (env.getD k .undef) (swp D c a Q ⟨env.set k .undef,H⟩) (swp D c b Q ⟨env.set k .undef,H⟩):=rfl
theorem AFy {id:Nat} {a:SC}:swp D c (.block id a) Q s=swp D c a (AEQ id Q) s:=rfl
theorem AHx {id:Nat}:swp D c (.exit id) Q s=Q (.exit id) s:=rfl
theorem AKU:swp D c .ret Q s=Q .ret s:=rfl
theorem AEw:swp D c .stuck Q s=False:=rfl
theorem Axl {b:SC}:Auh D c b Q .normal s=swp D c b Q s:=rfl
theorem AAU {b:SC} {i:Nat}:Auh D c b Q (.exit i) s=Q (.exit i) s:=rfl
theorem AEn {b:SC}:Auh D c b Q .ret s=Q .ret s:=rfl
theorem AyB {id:Nat}:AEQ id Q .normal s=Q .normal s:=rfl
theorem AEf {id i:Nat}:AEQ id Q (.exit i) s=if i=id then Q .normal s else Q (.exit i) s:=rfl
theorem AIs {id:Nat}:AEQ id Q .ret s=Q .ret s:=rfl
theorem AvC {rs:List Res} {n:Nat} {res:V} {outs:List O}:Aut rs n res outs .normal s=Ant rs n s res outs:=rfl
theorem AEg {rs:List Res} {n:Nat} {res:V} {outs:List O}:Aut rs n res outs .ret s=Ant rs n s res outs:=rfl
theorem ABr {rs:List Res} {n:Nat} {res:V} {outs:List O} {i:Nat}:Aut rs n res outs (.exit i) s=False:=rfl
theorem AJ2 {f:Bp} {args:List V} {given:List O} {res:V} {outs:List O}:Body D f args given res outs=
 (args.length=f.params.length∧given.length=f.ngiven∧swp D ⟨f.bor,f.takes⟩ f.body (Aut f.results f.ngiven res outs) (AwN f args given)):=rfl
theorem AJ4 {r:Bl} {Qs:St→Prop}:AEM D c r Qs s=IX D c (Fu s r.fresh).env r.ops [] (Fu s r.fresh).H (AFc r Qs (Fu s r.fresh).env):=rfl
theorem ABn {env vals:List V} {H:List O} {Q:List V→List O→Prop}:IX D c env [] vals H Q=Q vals H:=rfl
theorem Az7 {env vals:List V} {H:List O} {Q:List V→List O→Prop} {op:JQ} {tau:Option (List Nat)} {om:List Nat} {r:List Qq}:
 IX D c env ({op:=op,guard:=none,tau:=tau,om:=om} ::r) vals H Q=stepW D c (masked tau (hp H)) (evs vals env) op (opK D c env tau om r vals H Q):=rfl
theorem Awp {env vals:List V} {H:List O} {Q:List V→List O→Prop} {op:JQ} {j:Nat} {t:Bool} {tau:Option (List Nat)} {om:List Nat} {r:List Qq}:
 IX D c env ({op:=op,guard:=some (j,t),tau:=tau,om:=om} ::r) vals H Q=
  AoR (vals.getD j .undef) t (stepW D c (masked tau (hp H)) (evs vals env) op (opK D c env tau om r vals H Q)) (IX D c env r (vals++ [.tup []]) H Q):=rfl
theorem AL1 {env vals:List V} {H:List O} {Q:List V→List O→Prop} {tau:Option (List Nat)} {om:List Nat} {r:List Qq} {v:V} {u:Gq}:
 opK D c env tau om r vals H Q v u=(okU tau om (hp H) u=true∧IX D c env r (vals++ [v]) (Ahj H u) Q):=rfl
theorem AOe {r:Bl} {Qs:St→Prop} {env vals:List V} {H:List O}:AFc r Qs env vals H=
 (match JK ⟨clear (sets vals env r.sets) r.clr,H⟩ r.JK with | some s'=>Qs s' | none=>False):=rfl
theorem AED {b t:Bool} {p q:Prop}:AoR (.sc (.bool b)) t p q=if b=t then p else q:=rfl
theorem Azw {t:Bool} {p q:Prop}:AoR (.tup []) t p q=q:=rfl
theorem AH1 {b:Bool} {p q:Prop}:ADB (.sc (.bool b)) p q=if b then p else q:=rfl
end
end Go.Eng
