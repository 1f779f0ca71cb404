/- Own work: part 38 of the proof of FnExactDialOf. -/
import Derived.Test.YtdgpapmladligaaGreatEngAK
set_option linter.unusedSimpArgs false
set_option linter.unusedVariables false
namespace Go.Eng
def Ajz (D:Dn) (c:Cf) (b:SC) (Q:Out→St→Prop):Out→St→Prop:=fun o s'=>match o with | .normal=>swp D c b Q s' | o=>Q o s'
def AtH (id:Nat) (Q:Out→St→Prop):Out→St→Prop:=fun o s'=>match o with | .exit i=>if i=id then Q .normal s' else Q (.exit i) s' | o=>Q o s'
def AtP (r:Bz) (Q:St→Prop) (env:List V):List V→List O→Prop:=fun vals H=>
 match Gu ⟨clear (sets vals env r.sets) r.clr,H⟩ r.Gu with
 | some s'=>Q s'
 | none=>False
def opK (D:Dn) (c:Cf) (env:List V) (tau:Option (List Nat)) (om:List Nat) (rest:List LG) (vals:List V) (H:List O) (Q:List V→List O→Prop):V→Ev→Prop:=
 fun v u=>okU tau om (hp H) u=true∧FO D c env rest (vals++ [v]) (ZY H u) Q
def Afx (g:V) (t:Bool) (p q:Prop):Prop:=
 match g with
 | .sc (.bool b)=>if b=t then p else q
 | .tup []=>q
 | _=>False
def ArK (g:V) (p q:Prop):Prop:=
 match g with
 | .sc (.bool b)=>if b then p else q
 | _=>False
def AeP (rs:List Res) (n:Nat) (s:St) (res:V) (outs:List O):Prop:=
 match AcJ s rs with
 | none=>False
 | some l=>match give (hp s.H) (tie l)with
  | some (v,0,ks)=>v=res∧outs=(List.range n).map fun i=>if ks.contains i then .dead else Ael (hp s.H i)
  | _=>False
def AjN (rs:List Res) (n:Nat) (res:V) (outs:List O):Out→St→Prop:=fun o s=>match o with | .exit _=>False | _=>AeP rs n s res outs
section
variable {D:Dn} {c:Cf} {Q:Out→St→Prop} {s:St}
theorem Avq:swp D c .skip Q s=Q .normal s:=rfl
theorem Ay9 {r:Bz}:swp D c (.reg r) Q s=Ar9 D c r (Q .normal) s:=rfl
theorem Azf {a b:SC}:swp D c (.seq a b) Q s=swp D c a (Ajz D c b Q) s:=rfl
theorem Awe {k:Nat} {a b:SC} {env:List V} {H:List O}:swp D c (.cond k a b) Q ⟨env,H⟩=ArK (env.getD k .undef) (swp D c a Q ⟨env.set k .undef,H⟩) (swp D c b Q ⟨env.set k .undef,H⟩):=rfl
theorem Asd {id:Nat} {a:SC}:swp D c (.block id a) Q s=swp D c a (AtH id Q) s:=rfl
theorem AvN {id:Nat}:swp D c (.exit id) Q s=Q (.exit id) s:=rfl
theorem AyA:swp D c .ret Q s=Q .ret s:=rfl
theorem Aub:swp D c .stuck Q s=False:=rfl
theorem AkR {b:SC}:Ajz D c b Q .normal s=swp D c b Q s:=rfl
theorem Aq3 {b:SC} {i:Nat}:Ajz D c b Q (.exit i) s=Q (.exit i) s:=rfl
theorem AsW {b:SC}:Ajz D c b Q .ret s=Q .ret s:=rfl
theorem Ank {id:Nat}:AtH id Q .normal s=Q .normal s:=rfl
theorem AtG {id i:Nat}:AtH id Q (.exit i) s=if i=id then Q .normal s else Q (.exit i) s:=rfl
theorem Avv {id:Nat}:AtH id Q .ret s=Q .ret s:=rfl
theorem Ald {rs:List Res} {n:Nat} {res:V} {outs:List O}:AjN rs n res outs .normal s=AeP rs n s res outs:=rfl
theorem Atj {rs:List Res} {n:Nat} {res:V} {outs:List O}:AjN rs n res outs .ret s=AeP rs n s res outs:=rfl
theorem Aqc {rs:List Res} {n:Nat} {res:V} {outs:List O} {i:Nat}:AjN rs n res outs (.exit i) s=False:=rfl
theorem AzW {f:BD} {args:List V} {given:List O} {res:V} {outs:List O}:Body D f args given res outs=
 (args.length=f.params.length∧given.length=f.ngiven∧swp D ⟨f.bor,f.takes⟩ f.body (AjN f.results f.ngiven res outs) (Alp f args given)):=rfl
theorem Ay2 {r:Bz} {Qs:St→Prop}:Ar9 D c r Qs s=FO D c (DZ s r.fresh).env r.ops [] (DZ s r.fresh).H (AtP r Qs (DZ s r.fresh).env):=rfl
theorem Apf {env vals:List V} {H:List O} {Q:List V→List O→Prop}:FO D c env [] vals H Q=Q vals H:=rfl
theorem AnJ {env vals:List V} {H:List O} {Q:List V→List O→Prop} {op:Hw} {tau:Option (List Nat)} {om:List Nat} {r:List LG}:
 FO D c env ({op:=op,guard:=none,tau:=tau,om:=om} ::r) vals H Q=stepW D c (masked tau (hp H)) (evs vals env) op (opK D c env tau om r vals H Q):=rfl
theorem Amg {env vals:List V} {H:List O} {Q:List V→List O→Prop} {op:Hw} {j:Nat} {t:Bool} {tau:Option (List Nat)} {om:List Nat} {r:List LG}:
 FO D c env ({op:=op,guard:=some (j,t),tau:=tau,om:=om} ::r) vals H Q=
  Afx (vals.getD j .undef) t (stepW D c (masked tau (hp H)) (evs vals env) op (opK D c env tau om r vals H Q)) (FO D c env r (vals++ [.tup []]) H Q):=rfl
theorem ABw {env vals:List V} {H:List O} {Q:List V→List O→Prop} {tau:Option (List Nat)} {om:List Nat} {r:List LG} {v:V} {u:Ev}:
 opK D c env tau om r vals H Q v u=(okU tau om (hp H) u=true∧FO D c env r (vals++ [v]) (ZY H u) Q):=rfl
theorem ADc {r:Bz} {Qs:St→Prop} {env vals:List V} {H:List O}:AtP r Qs env vals H=
 (match Gu ⟨clear (sets vals env r.sets) r.clr,H⟩ r.Gu with | some s'=>Qs s' | none=>False):=rfl
theorem Ash {b t:Bool} {p q:Prop}:Afx (.sc (.bool b)) t p q=if b=t then p else q:=rfl
theorem Aot {t:Bool} {p q:Prop}:Afx (.tup []) t p q=q:=rfl
theorem AvZ {b:Bool} {p q:Prop}:ArK (.sc (.bool b)) p q=if b then p else q:=rfl
end
end Go.Eng
