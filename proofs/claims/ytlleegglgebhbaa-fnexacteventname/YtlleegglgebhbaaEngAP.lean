/-
  ENGINE, part AP: calls in a body: what is to come stays closed until the callee's promise is named. Own work; seat-independent.
-/
import Derived.Test.YtlleegglgebhbaaEngAO
namespace Go.Eng

def callQ (D : Dn) (g : Nat) (args : List V) (given : List O) (K : V → List O → Prop) : Prop := ∃ res outs, D g args given res outs ∧ K res outs
def callK (H : Hp) (ks sites : List Nat) (K : V → Upd → Prop) : V → List O → Prop := fun res outs =>
  match backU H ks outs, imp H sites res with
  | some u, some (v, u', _) => K v (u ++ u')
  | _, _ => False

section
variable {D : Dn} {c : Cf} {H : Hp} {K : V → Upd → Prop}
theorem callQ_of {g : Nat} {args : List V} {given : List O} {K : V → List O → Prop} {res : V} {outs : List O} (h : D g args given res outs) (hk : K res outs) : callQ D g args given K := ⟨res, outs, h, hk⟩
theorem stepW_call {ev : Src → V} {g : Nat} {args : List (Bool × Src)} {sites : List Nat} : stepW D c H ev (.call g args sites) K = callW D c H K g (args.map fun (b, x) => (b, ev x)) sites := rfl
theorem stepW_callv {ev : Src → V} {f : Src} {args : List (Bool × Src)} {sites : List Nat} : stepW D c H ev (.callv f args sites) K =
    (match ev f with
    | .fn g caps => callW D c H K g ((args.map fun (b, x) => (b, ev x)) ++ caps.map fun v => (false, v)) sites
    | _ => False) := rfl
theorem callW_eq {g : Nat} {args : List (Bool × V)} {sites : List Nat} : callW D c H K g args sites =
    (match ownArgs H 0 args with
    | none => False
    | some ks => if callOk c H ks = false then False else match callArgs H (killL ks H) 0 args with
      | none => False
      | some args' => callQ D g args' (ks.map fun k => givenO (H k)) (callK H ks sites K)) := rfl
theorem callK_eq {ks sites : List Nat} {res : V} {outs : List O} : callK H ks sites K res outs =
    (match backU H ks outs, imp H sites res with
    | some u, some (v, u', _) => K v (u ++ u')
    | _, _ => False) := rfl
end

def ghK (Q : St → Prop) : Option St → Prop
  | some s => Q s
  | none => False
def callK2 (K : V → Upd → Prop) : Option Upd → Option (V × Upd × List Nat) → Prop
  | some u, some (v, u', _) => K v (u ++ u')
  | _, _ => False
theorem fin1_some {v : V} {u : Upd} {K : V → Upd → Prop} : fin1 (some (v, u)) K = K v u := rfl
theorem fin1_none {K : V → Upd → Prop} : fin1 none K = False := rfl
theorem ghK_some {Q : St → Prop} {s : St} : ghK Q (some s) = Q s := rfl
theorem ghK_none {Q : St → Prop} : ghK Q none = False := rfl
theorem callK2_some {K : V → Upd → Prop} {u u' : Upd} {v : V} {l : List Nat} : callK2 K (some u) (some (v, u', l)) = K v (u ++ u') := rfl
theorem finR_eq' {r : Reg} {Qs : St → Prop} {env vals : List V} {H : List O} : finR r Qs env vals H = ghK Qs (ghosts ⟨clear (sets vals env r.sets) r.clr, H⟩ r.ghosts) := by
  unfold finR ghK; split <;> simp_all
theorem callK_eq' {H : Hp} {ks sites : List Nat} {K : V → Upd → Prop} {res : V} {outs : List O} : callK H ks sites K res outs = callK2 K (backU H ks outs) (imp H sites res) := by
  unfold callK callK2; split <;> simp_all
attribute [simp] body_eq swp_skip swp_reg swp_seq swp_cond swp_block swp_exit swp_ret thenQ_normal thenQ_exit thenQ_ret blkQ_normal blkQ_exit blkQ_ret bodyQ_normal bodyQ_ret bodyQ_exit regW_eq runOps_nil runOps_cons runOps_guard opK_eq finR_eq' ghK_some ghK_none fin1_some fin1_none callK2_some guardW_eq condW_eq
attribute [simp] stepW stepW_call stepW_callv callW_eq callK_eq' ownArgs callOk callArgs ro ro2 ro1 roL ro2L imp imp2 imp1 impL imp2L backU backO givenO
attribute [simp] killAll op1 evs noU putU setO sets clear ghosts ghost initSt initEnv finishR resVs resV tie give give2 give1 giveL give2L masked hp killL kill killV killO m1 m2 m3 okU
attribute [simp] isSc cellsOf putAt getAt_one roCell arrCell arrCells loadN loadV arrOf wrp binV beqV unV mmV asI deadU unhome buildGo bslGo mmGo appBase appSrc appendV bounds sliceV fieldAddrV indexAddrV lenV isStr lenV' sliceV' indexSV indexAV fieldV extractV convV unVV binVV beqVV pickV takeV storeV allocV makeSliceV buildSliceV
end Go.Eng
