/- The program's EventName returns what the reference's returns, for every argument; no condition. -/
import Derived.Test.YtlleegglgebhbaaRows
import Derived.Test.YtlleegglgebhbaaB1
import Derived.Test.YtlleegglgebhbaaL1
import Derived.WalkKit
import Derived.ProofKit
import Derived.OpenShut
namespace Go.Eng.T
open Go.ChangeShapes Go.WideShapes Go.ChangeAt Go.RowKit Go.Proofs

theorem own : ownKnob Try.prog.godebug = none := by kernel_rfl
theorem hmix : Try.prog.follows .mixedOrders = true := by kernel_rfl
theorem hFl : fidL.all (fun o => match o with | some f => okF Try.prog f | none => true) = true := by kernel_rfl
theorem hF : ∀ g f, fid g = some f → okF Try.prog f = true := by
  intro g f h
  have := List.all_eq_true.1 hFl (some f) (by
    unfold fid at h
    rw [List.getD_eq_getElem?_getD] at h
    cases hg : fidL[g]? with
    | none => simp [hg] at h
    | some o => simp [hg] at h; subst h; exact List.mem_of_getElem? hg)
  exact this
abbrev G0 : Nat → Prop := fun _ => False
abbrev DD : Dn := Den Try.prog fid G0
theorem lk {g : Nat} {f : FuncId} {fn : Func} {st : List Tmp} {sf : SFn} (hg : fid g = some f) (hfn : Try.prog.funcs[f]? = some fn) (hm : mFn Try.prog fid st sf fn = true) {a : List V} {gi : List O} {r : V} {o : List O}
    (h : Body DD sf a gi r o) : DD g a gi r o :=
  fn_sound hmix (fun _ _ _ _ _ h => h) hF (fun id hid => by rw [hg] at hid; cases hid; exact hfn) hm h

theorem dl1In : InS (DD 71) := fun a b c => lk rfl Try.func24 msspec_l1In (l1In_b _ a b c)
theorem dInRange : InS (DD 114) := fun a b c => lk rfl Try.func25 msimpl_InRange (InRange_b _ a b c)
theorem dsEventName : EventNameS (DD 73) := fun k => lk rfl Try.func7 msspec_EventName (sEventName_b _ dl1In k)
theorem diEventName : EventNameS (DD 377) := fun k => lk rfl Try.func8 msimpl_EventName (iEventName_b _ dInRange k)
theorem den (av : List V) (h : ArgsV [.int .i64] av) : DD 376 av [] (B true) [] := by
  obtain ⟨v, r, ⟨c, hd, rfl⟩, rfl, rfl⟩ := h
  simp only [Dat] at hd
  obtain ⟨n, _, hn⟩ := hd
  obtain rfl : c = I n := by simpa using hn
  exact lk rfl Try.func3 mslaws_FnExactEventName (FnExactEventName_b _ dsEventName diEventName n)

end Go.Eng.T
namespace Go.Proofs.Ytlleegglgebhbaa
open Go.ChangeShapes Go.WideShapes Go.ChangeAt Go.RowKit Go.Eng
set_option maxRecDepth 100000 in
theorem lifted (os : Os) (started : os.Started) (H : Type) (enc : TypeId × Value → H) :
    ReturnsInHanded {} Try.checked os 3 .any (Rows.fnExactEventNameSpec.pre6 enc Try.prog Try.f3 Rows.fnExactEventNameRow.domain false) (Rows.fnExactEventNameSpec.post enc Try.prog Try.f3 false true false false) := by
  refine returnsInHanded_of_change (C := Try.checked) T.own started (by kernel_rfl) Try.func3
    (ChangeSpec.witness6 (enc := enc) (C := Try.checked) false ⟨#[], #[.int .i64 0], []⟩ 8 (by kernel_rfl) (by kernel_rfl) (by kernel_rfl) (by kernel_rfl)) ?_
  intro W base args ds gs before hval hW _ _
  exact row_contract (fid := T.fid) (G := T.G0) (g := 376) (ys := [.int .i64]) (tb := 4) rfl T.den (fun _ h => h.elim) (by kernel_rfl) (by kernel_rfl) Try.underlying4 rfl (fun ds h => match ds, h with | [_], _ => rfl) hval hW

theorem proved : Rows.FnExactEventNameSaid :=
  OpenClaim.holds_of_wide 3 Try.f3 rfl rfl rfl rfl rfl rfl rfl ⟨rfl, rfl, rfl, rfl, rfl⟩ rfl rfl rfl rfl rfl (by kernel_rfl) Try.func3 (by kernel_rfl)
    (of_decide_eq_true (by kernel_rfl)) (by unfold Func.isWrapper; first | (rw [if_pos (by decide +kernel)]; kernel_rfl) | (rw [if_neg (by decide +kernel)]; exact ⟨rfl, rfl⟩))
    (fun os started H enc _ => lifted os started H enc)
#print axioms proved
end Go.Proofs.Ytlleegglgebhbaa
