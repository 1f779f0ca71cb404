/- Own work: part 38 of the proof of FnWorlds. -/
import Derived.Test.YtncobgjmochecabGreatEngAK
set_option linter.unusedSimpArgs false
set_option linter.unusedVariables false
namespace Go.Eng

def thenQ (D : Dn) (c : Cf) (b : SC) (Q : Out → St → Prop) : Out → St → Prop := fun o s' => match o with | .normal => swp D c b Q s' | o => Q o s'
def blkQ (id : Nat) (Q : Out → St → Prop) : Out → St → Prop := fun o s' => match o with | .exit i => if i = id then Q .normal s' else Q (.exit i) s' | o => Q o s'
def finR (r : Reg) (Q : St → Prop) (env : List V) : List V → List O → Prop := fun vals H =>
  match ghosts ⟨clear (sets vals env r.sets) r.clr, H⟩ r.ghosts with
  | some s' => Q s'
  | none => False
def opK (D : Dn) (c : Cf) (env : List V) (tau : Option (List Nat)) (om : List Nat) (rest : List ROp) (vals : List V) (H : List O) (Q : List V → List O → Prop) : V → Upd → Prop :=
  fun v u => okU tau om (hp H) u = true ∧ runOps D c env rest (vals ++ [v]) (putU H u) Q
def guardW (g : V) (t : Bool) (p q : Prop) : Prop :=
  match g with
  | .sc (.bool b) => if b = t then p else q
  | .tup [] => q
  | _ => False
def condW (g : V) (p q : Prop) : Prop :=
  match g with
  | .sc (.bool b) => if b then p else q
  | _ => False
def finishR (rs : List Res) (n : Nat) (s : St) (res : V) (outs : List O) : Prop :=
  match resVs s rs with
  | none => False
  | some l => match give (hp s.H) (tie l) with
    | some (v, 0, ks) => v = res ∧ outs = (List.range n).map fun i => if ks.contains i then .dead else outO (hp s.H i)
    | _ => False
def bodyQ (rs : List Res) (n : Nat) (res : V) (outs : List O) : Out → St → Prop := fun o s => match o with | .exit _ => False | _ => finishR rs n s res outs

section
variable {D : Dn} {c : Cf} {Q : Out → St → Prop} {s : St}

theorem swp_skip : swp D c .skip Q s = Q .normal s := rfl
theorem swp_reg {r : Reg} : swp D c (.reg r) Q s = regW D c r (Q .normal) s := rfl
theorem swp_seq {a b : SC} : swp D c (.seq a b) Q s = swp D c a (thenQ D c b Q) s := rfl
theorem swp_cond {k : Nat} {a b : SC} {env : List V} {H : List O} : swp D c (.cond k a b) Q ⟨env, H⟩ = condW (env.getD k .undef) (swp D c a Q ⟨env.set k .undef, H⟩) (swp D c b Q ⟨env.set k .undef, H⟩) := rfl
theorem swp_block {id : Nat} {a : SC} : swp D c (.block id a) Q s = swp D c a (blkQ id Q) s := rfl
theorem swp_exit {id : Nat} : swp D c (.exit id) Q s = Q (.exit id) s := rfl
theorem swp_ret : swp D c .ret Q s = Q .ret s := rfl
theorem swp_stuck : swp D c .stuck Q s = False := rfl
theorem thenQ_normal {b : SC} : thenQ D c b Q .normal s = swp D c b Q s := rfl
theorem thenQ_exit {b : SC} {i : Nat} : thenQ D c b Q (.exit i) s = Q (.exit i) s := rfl
theorem thenQ_ret {b : SC} : thenQ D c b Q .ret s = Q .ret s := rfl
theorem blkQ_normal {id : Nat} : blkQ id Q .normal s = Q .normal s := rfl
theorem blkQ_exit {id i : Nat} : blkQ id Q (.exit i) s = if i = id then Q .normal s else Q (.exit i) s := rfl
theorem blkQ_ret {id : Nat} : blkQ id Q .ret s = Q .ret s := rfl
theorem bodyQ_normal {rs : List Res} {n : Nat} {res : V} {outs : List O} : bodyQ rs n res outs .normal s = finishR rs n s res outs := rfl
theorem bodyQ_ret {rs : List Res} {n : Nat} {res : V} {outs : List O} : bodyQ rs n res outs .ret s = finishR rs n s res outs := rfl
theorem bodyQ_exit {rs : List Res} {n : Nat} {res : V} {outs : List O} {i : Nat} : bodyQ rs n res outs (.exit i) s = False := rfl
theorem body_eq {f : SFn} {args : List V} {given : List O} {res : V} {outs : List O} : Body D f args given res outs =
    (args.length = f.params.length ∧ given.length = f.ngiven ∧ swp D ⟨f.bor, f.takes⟩ f.body (bodyQ f.results f.ngiven res outs) (initSt f args given)) := rfl
theorem regW_eq {r : Reg} {Qs : St → Prop} : regW D c r Qs s = runOps D c (killAll s r.fresh).env r.ops [] (killAll s r.fresh).H (finR r Qs (killAll s r.fresh).env) := rfl
theorem runOps_nil {env vals : List V} {H : List O} {Q : List V → List O → Prop} : runOps D c env [] vals H Q = Q vals H := rfl
theorem runOps_cons {env vals : List V} {H : List O} {Q : List V → List O → Prop} {op : SOp} {tau : Option (List Nat)} {om : List Nat} {r : List ROp} :
    runOps D c env ({ op := op, guard := none, tau := tau, om := om } :: r) vals H Q = stepW D c (masked tau (hp H)) (evs vals env) op (opK D c env tau om r vals H Q) := rfl
theorem runOps_guard {env vals : List V} {H : List O} {Q : List V → List O → Prop} {op : SOp} {j : Nat} {t : Bool} {tau : Option (List Nat)} {om : List Nat} {r : List ROp} :
    runOps D c env ({ op := op, guard := some (j, t), tau := tau, om := om } :: r) vals H Q =
      guardW (vals.getD j .undef) t (stepW D c (masked tau (hp H)) (evs vals env) op (opK D c env tau om r vals H Q)) (runOps D c env r (vals ++ [.tup []]) H Q) := rfl
theorem opK_eq {env vals : List V} {H : List O} {Q : List V → List O → Prop} {tau : Option (List Nat)} {om : List Nat} {r : List ROp} {v : V} {u : Upd} :
    opK D c env tau om r vals H Q v u = (okU tau om (hp H) u = true ∧ runOps D c env r (vals ++ [v]) (putU H u) Q) := rfl
theorem finR_eq {r : Reg} {Qs : St → Prop} {env vals : List V} {H : List O} : finR r Qs env vals H =
    (match ghosts ⟨clear (sets vals env r.sets) r.clr, H⟩ r.ghosts with | some s' => Qs s' | none => False) := rfl
theorem guardW_eq {b t : Bool} {p q : Prop} : guardW (.sc (.bool b)) t p q = if b = t then p else q := rfl
theorem guardW_skip {t : Bool} {p q : Prop} : guardW (.tup []) t p q = q := rfl
theorem condW_eq {b : Bool} {p q : Prop} : condW (.sc (.bool b)) p q = if b then p else q := rfl

end
end Go.Eng

