/- Own work: part 42 of the proof of FnWorlds. -/
import Derived.Test.YtncobgjmochecabGreatEngAO
set_option linter.unusedSimpArgs false
set_option linter.unusedVariables false
namespace Go.Eng

def callQ (D : Dn) (g : Nat) (args : List V) (given : List O) (K : V → List O → Prop) : Prop := ∃ res outs, D g args given res outs ∧ K res outs
def callK (H : Hp) (ks sites : List Nat) (K : V → Upd → Prop) : V → List O → Prop := fun res outs =>
  match backU H ks outs, imp H sites res with
  | some u, some (v, u', _) => K v (u ++ u')
  | _, _ => False

section
variable {D : Dn} {c : Cf} {H : Hp} {K : V → Upd → Prop}
theorem callQ_of {g : Nat} {args : List V} {given : List O} {K : V → List O → Prop} {res : V} {outs : List O} (h : D g args given res outs) (hk : K res outs) : callQ D g args given K := ⟨res, outs, h, hk⟩
theorem stepW_call {ev : Src → V} {g : Nat} {args : List (Bool × Src)} {sites : List Nat} : stepW D c H ev (.call g args sites) K = callW D c H K g (args.map fun (b, x) => (b, ev x)) sites := rfl
theorem stepW_callv {ev : Src → V} {f : Src} {args : List (Bool × Src)} {sites : List Nat} : stepW D c H ev (.callv f args sites) K =
    (match ev f with
    | .fn g caps => callW D c H K g ((args.map fun (b, x) => (b, ev x)) ++ caps.map fun v => (false, v)) sites
    | _ => False) := rfl
theorem callW_eq {g : Nat} {args : List (Bool × V)} {sites : List Nat} : callW D c H K g args sites =
    (match ownArgs H 0 args with
    | none => False
    | some ks => if callOk c H ks = false then False else match callArgs H (killL ks H) 0 args with
      | none => False
      | some args' => callQ D g args' (ks.map fun k => givenO (H k)) (callK H ks sites K)) := rfl
theorem callK_eq {ks sites : List Nat} {res : V} {outs : List O} : callK H ks sites K res outs =
    (match backU H ks outs, imp H sites res with
    | some u, some (v, u', _) => K v (u ++ u')
    | _, _ => False) := rfl
end

def ghK (Q : St → Prop) : Option St → Prop
  | some s => Q s
  | none => False
def callK2 (K : V → Upd → Prop) : Option Upd → Option (V × Upd × List Nat) → Prop
  | some u, some (v, u', _) => K v (u ++ u')
  | _, _ => False
theorem fin1_some {v : V} {u : Upd} {K : V → Upd → Prop} : fin1 (some (v, u)) K = K v u := rfl
theorem fin1_none {K : V → Upd → Prop} : fin1 none K = False := rfl
theorem ghK_some {Q : St → Prop} {s : St} : ghK Q (some s) = Q s := rfl
theorem ghK_none {Q : St → Prop} : ghK Q none = False := rfl
theorem callK2_some {K : V → Upd → Prop} {u u' : Upd} {v : V} {l : List Nat} : callK2 K (some u) (some (v, u', l)) = K v (u ++ u') := rfl
theorem finR_eq' {r : Reg} {Qs : St → Prop} {env vals : List V} {H : List O} : finR r Qs env vals H = ghK Qs (ghosts ⟨clear (sets vals env r.sets) r.clr, H⟩ r.ghosts) := by
  unfold finR ghK; split <;> simp_all
theorem callK_eq' {H : Hp} {ks sites : List Nat} {K : V → Upd → Prop} {res : V} {outs : List O} : callK H ks sites K res outs = callK2 K (backU H ks outs) (imp H sites res) := by
  unfold callK callK2; split <;> simp_all
section
variable {D : Dn} {c : Cf}
@[congr] theorem guardW_congr {g g' : V} {t : Bool} {p q : Prop} (h : g = g') : guardW g t p q = guardW g' t p q := by rw [h]
@[congr] theorem condW_congr {g g' : V} {p q : Prop} (h : g = g') : condW g p q = condW g' p q := by rw [h]
@[congr] theorem fin1_congr {r r' : Option (V × Upd)} {K : V → Upd → Prop} (h : r = r') : fin1 r K = fin1 r' K := by rw [h]
@[congr] theorem ghK_congr {r r' : Option St} {K : St → Prop} (h : r = r') : ghK K r = ghK K r' := by rw [h]
@[congr] theorem callK2_congr {a a' : Option Upd} {r r' : Option (V × Upd × List Nat)} {K : V → Upd → Prop} (h : a = a') (h' : r = r') : callK2 K a r = callK2 K a' r' := by rw [h, h']
@[congr] theorem callQ_congr {g : Nat} {args args' : List V} {given given' : List O} {K : V → List O → Prop} (h : args = args') (h' : given = given') : callQ D g args given K = callQ D g args' given' K := by rw [h, h']
@[congr] theorem callK_congr {H : Hp} {ks sites : List Nat} {K : V → Upd → Prop} {r r' : V} {o o' : List O} (h : r = r') (h' : o = o') : callK H ks sites K r o = callK H ks sites K r' o' := by rw [h, h']
@[congr] theorem thenQ_congr {b : SC} {Q : Out → St → Prop} {o o' : Out} {s s' : St} (h : o = o') (h' : s = s') : thenQ D c b Q o s = thenQ D c b Q o' s' := by rw [h, h']
@[congr] theorem blkQ_congr {id : Nat} {Q : Out → St → Prop} {o o' : Out} {s s' : St} (h : o = o') (h' : s = s') : blkQ id Q o s = blkQ id Q o' s' := by rw [h, h']
@[congr] theorem bodyQ_congr {rs : List Res} {n : Nat} {res : V} {outs : List O} {o o' : Out} {s s' : St} (h : o = o') (h' : s = s') : bodyQ rs n res outs o s = bodyQ rs n res outs o' s' := by rw [h, h']
@[congr] theorem opK_congr {env : List V} {tau : Option (List Nat)} {om : List Nat} {rest : List ROp} {vals : List V} {H : List O} {Q : List V → List O → Prop} {v v' : V} {u u' : Upd} (h : v = v') (h' : u = u') :
    opK D c env tau om rest vals H Q v u = opK D c env tau om rest vals H Q v' u' := by rw [h, h']
@[congr] theorem finR_congr {r : Reg} {Qs : St → Prop} {env : List V} {vals vals' : List V} {H H' : List O} (h : vals = vals') (h' : H = H') : finR r Qs env vals H = finR r Qs env vals' H' := by rw [h, h']
@[congr] theorem stepW_congr {H : Hp} {ev : Src → V} {op : SOp} {K : V → Upd → Prop} : stepW D c H ev op K = stepW D c H ev op K := rfl
@[congr] theorem callW_congr {H : Hp} {K : V → Upd → Prop} {g : Nat} {args args' : List (Bool × V)} {sites : List Nat} (h : args = args') : callW D c H K g args sites = callW D c H K g args' sites := by rw [h]
end
attribute [simp] body_eq swp_skip swp_reg swp_seq swp_cond swp_block swp_exit swp_ret swp_stuck thenQ_normal thenQ_exit thenQ_ret blkQ_normal blkQ_exit blkQ_ret bodyQ_normal bodyQ_ret bodyQ_exit regW_eq runOps_nil runOps_cons runOps_guard opK_eq finR_eq' ghK_some ghK_none fin1_some fin1_none callK2_some guardW_eq guardW_skip condW_eq
attribute [simp] stepW stepW_call stepW_callv callW_eq callK_eq' ownArgs ownArg ownAtom ownAtoms plainCells callOk callArgs ro ro2 ro1 roL ro2L imp imp2 imp1 impL imp2L backU backO givenO
attribute [simp] killAll op1 evs noU putU setO sets clear ghosts ghost initSt initEnv finishR resVs resV tie give give2 give1 giveL give2L masked hp shp killL kill killV killO m1 m2 m3 okU shp rename renV renO noHome
theorem putAt_nil {cs : List V} {o : Nat} : putAt cs o [] = cs := (rfl)
theorem putAt_one {cs : List V} {o : Nat} {v : V} : putAt cs o [v] = cs.set o v := (rfl)
theorem putAt_lit {a : V} {cs : List V} {o : Nat} {v : V} {r : List V} : putAt (a :: cs) o (v :: r) = putAt ((a :: cs).set o v) (o + 1) r := (rfl)
attribute [simp] putAt_nil putAt_one putAt_lit
attribute [simp] isSc cellsOf getAt_one roCell arrCell arrCells loadN loadV arrOf wrp binV beqV unV mmV asI deadU unhome buildGo bslGo mmGo appBase appPart appSrc appendV bounds sliceV fieldAddrV indexAddrV lenV isStr lenV' sliceV' indexSV indexAV fieldV extractV convV unVV binVV beqVV pickV takeV storeV allocV makeSliceV buildSliceV
end Go.Eng

