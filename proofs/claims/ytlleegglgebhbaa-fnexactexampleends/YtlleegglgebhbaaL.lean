/- Own work: part 44 of the proof of FnExactExampleEnds. -/
import Derived.Test.YtlleegglgebhbaaP43
import Derived.Test.YtlleegglgebhbaaProg
import Derived.KernelRfl
namespace Go.Eng.T
open Go.Proofs
def fidL : List (Option Nat) := [none, none, none, none, none, none, none, none, none, none, none, none, none, none, none, none, none, none, none, none, none, none, none, none, none, none, none, none, none, none, none, none, none, none, none, none, none, none, none, none, none, none, none, none, none, none, none, some 33, some 21, none, none, none, some 38, some 22, none, none, none, some 40, some 23, none, none, none, none, none, none, none, none, none, none, some 19, none, none, none, none, none, none, none, none, none, none, none, none, none, none, none, none, none, none, none, none, none, none, none, none, none, none, none, none, none, none, none, none, none, none, none, none, none, none, none, none, none, none, none, none, some 25, some 20, none, none, none, none, none, none, none, none, none, none, none, none, none, none, none, none, none, none, some 37, none, none, some 39, some 41, none, none, none, none, none, none, none, none, none, none, none, none, none, none, none, none, none, none, none, none, none, none, none, none, none, none, none, none, none, none, none, none, none, none, none, none, none, none, none, none, none, none, none, none, none, none, none, none, none, none, none, none, none, none, none, none, none, none, none, none, none, none, none, none, none, some 47, none, none, none, none, none, none, none, none, none, none, none, none, none, none, none, none, none, none, none, none, none, none, none, none, none, none, none, none, none, none, none, none, none, none, none, none, none, none, none, none, none, none, none, none, some 46, none, none, none, none, none, none, none, none, none, none, none, none, none, none, none, none, none, none, none, none, none, none, none, none, none, none, none, none, none, none, none, none, none, none, none, none, none, none, none, none, none, none, none, none, none, none, none, none, none, none, none, none, none, none, none, none, none, none, none, none, none, none, none, none, none, none, none, none, none, none, none, none, none, none, none, none, none, none, none, none, none, none, none, none, none, none, none, none, none, none, none, none, none, none, none, none, none, none, none, none, none, none, none, none, none, none, none, none, none, none, none, none, none, none, none, none, none, none, none, none, none, none, none, none, none, none, none, none, none, none, none, none, none, none, none, some 6, none, none, none, none]
def fid : Nat → Option FuncId := fun g => fidL.getD g none
theorem hmix : Try.prog.follows .mixedOrders = true := by kernel_rfl
theorem hFl : fidL.all (fun o => match o with | some f => okF Try.prog f | none => true) = true := by kernel_rfl
theorem hF : ∀ g f, fid g = some f → okF Try.prog f = true := by
  intro g f h
  have := List.all_eq_true.1 hFl (some f) (by
    unfold fid at h
    rw [List.getD_eq_getElem?_getD] at h
    cases hg : fidL[g]? with
    | none => simp [hg] at h
    | some o => simp [hg] at h; subst h; exact List.mem_of_getElem? hg)
  exact this
abbrev G0 : Nat → Prop := fun _ => False
abbrev DD : Dn := Den Try.prog fid G0
theorem lk {g : Nat} {f : FuncId} {fn : Func} {st : List Tmp} {sf : SFn} (hg : fid g = some f) (hfn : Try.prog.funcs[f]? = some fn) (hm : mFn Try.prog fid st sf fn = true) {a : List V} {gi : List O} {r : V} {o : List O}
    (h : Body DD sf a gi r o) : DD g a gi r o :=
  fn_sound hmix (fun _ _ _ _ _ h => h) hF (fun id hid => by rw [hg] at hid; cases hid; exact hfn) hm h
theorem msspec_ExampleEnds : mFn Try.prog fid sspec_ExampleEnds_t sspec_ExampleEnds Try.f19 = true := by kernel_rfl
theorem msimpl_InRange : mFn Try.prog fid simpl_InRange_t simpl_InRange Try.f25 = true := by kernel_rfl
theorem msimpl_ExampleEnds : mFn Try.prog fid simpl_ExampleEnds_t simpl_ExampleEnds Try.f20 = true := by kernel_rfl
theorem mslaws_eqIntS : mFn Try.prog fid slaws_eqIntS_t slaws_eqIntS Try.f33 = true := by kernel_rfl
theorem mslaws_eqBox : mFn Try.prog fid slaws_eqBox_t slaws_eqBox Try.f46 = true := by kernel_rfl
theorem mslaws_eqBoxS : mFn Try.prog fid slaws_eqBoxS_t slaws_eqBoxS Try.f47 = true := by kernel_rfl
theorem mslaws_eqEndpoint : mFn Try.prog fid slaws_eqEndpoint_t slaws_eqEndpoint Try.f37 = true := by kernel_rfl
theorem mslaws_eqEndpointS : mFn Try.prog fid slaws_eqEndpointS_t slaws_eqEndpointS Try.f21 = true := by kernel_rfl
theorem mslaws_markIntS : mFn Try.prog fid slaws_markIntS_t slaws_markIntS Try.f38 = true := by kernel_rfl
theorem mslaws_markBoxS : mFn Try.prog fid slaws_markBoxS_t slaws_markBoxS Try.f39 = true := by kernel_rfl
theorem mslaws_markEndpointS : mFn Try.prog fid slaws_markEndpointS_t slaws_markEndpointS Try.f22 = true := by kernel_rfl
theorem mslaws_heldIntS : mFn Try.prog fid slaws_heldIntS_t slaws_heldIntS Try.f40 = true := by kernel_rfl
theorem mslaws_heldBoxS : mFn Try.prog fid slaws_heldBoxS_t slaws_heldBoxS Try.f41 = true := by kernel_rfl
theorem mslaws_heldEndpointS : mFn Try.prog fid slaws_heldEndpointS_t slaws_heldEndpointS Try.f23 = true := by kernel_rfl
theorem mslaws_FnExactExampleEnds : mFn Try.prog fid slaws_FnExactExampleEnds_t slaws_FnExactExampleEnds Try.f6 = true := by kernel_rfl
theorem dExampleEndsS_69 : ExampleEndsS (DD 69) := by unfold ExampleEndsS; intros; refine lk (g := 69) rfl Try.func19 msspec_ExampleEnds ?_; apply sExampleEnds_b _  <;> assumption
theorem dInS_114 : InS (DD 114) := by unfold InS; intros; refine lk (g := 114) rfl Try.func25 msimpl_InRange ?_; apply InRange_b _  <;> assumption
theorem dExampleEndsS_115 : ExampleEndsS (DD 115) := by unfold ExampleEndsS; intros; refine lk (g := 115) rfl Try.func20 msimpl_ExampleEnds ?_; apply iExampleEnds_b _ dInS_114 <;> assumption
theorem deqIntSS_47 : eqIntSS (DD 47) := by unfold eqIntSS; intros; refine lk (g := 47) rfl Try.func33 mslaws_eqIntS ?_; apply eqIntS_b _  <;> assumption
theorem deqBoxS_249 : eqBoxS (DD 249) := by unfold eqBoxS; intros; refine lk (g := 249) rfl Try.func46 mslaws_eqBox ?_; apply eqBox_b _ deqIntSS_47 <;> assumption
theorem deqBoxSS_204 : eqBoxSS (DD 204) := by unfold eqBoxSS; intros; refine lk (g := 204) rfl Try.func47 mslaws_eqBoxS ?_; apply eqBoxS_b _ deqBoxS_249 <;> assumption
theorem deqEndpointS_134 : eqEndpointS (DD 134) := by unfold eqEndpointS; intros; refine lk (g := 134) rfl Try.func37 mslaws_eqEndpoint ?_; apply eqEndpoint_b _ deqIntSS_47 deqBoxSS_204 <;> assumption
theorem deqEndpointSS_48 : eqEndpointSS (DD 48) := by unfold eqEndpointSS; intros; refine lk (g := 48) rfl Try.func21 mslaws_eqEndpointS ?_; apply eqEndpointS_b _ deqEndpointS_134 <;> assumption
theorem dmarkIntSS_52 : markIntSS (DD 52) := by unfold markIntSS; intros; refine lk (g := 52) rfl Try.func38 mslaws_markIntS ?_; apply markIntS_b _  <;> assumption
theorem dmarkBoxSS_137 : markBoxSS (DD 137) := by unfold markBoxSS; intros; refine lk (g := 137) rfl Try.func39 mslaws_markBoxS ?_; apply markBoxS_b _ dmarkIntSS_52 <;> assumption
theorem dmarkEndpointSS_53 : markEndpointSS (DD 53) := by unfold markEndpointSS; intros; refine lk (g := 53) rfl Try.func22 mslaws_markEndpointS ?_; apply markEndpointS_b _ dmarkIntSS_52 dmarkBoxSS_137 <;> assumption
theorem dheldIntSS_57 : heldIntSS (DD 57) := by unfold heldIntSS; intros; refine lk (g := 57) rfl Try.func40 mslaws_heldIntS ?_; apply heldIntS_b _  <;> assumption
theorem dheldBoxSS_138 : heldBoxSS (DD 138) := by unfold heldBoxSS; intros; refine lk (g := 138) rfl Try.func41 mslaws_heldBoxS ?_; apply heldBoxS_b _ dheldIntSS_57 <;> assumption
theorem dheldEndpointSS_58 : heldEndpointSS (DD 58) := by unfold heldEndpointSS; intros; refine lk (g := 58) rfl Try.func23 mslaws_heldEndpointS ?_; apply heldEndpointS_b _ dheldIntSS_57 dheldBoxSS_138 <;> assumption
theorem dFnExactExampleEndsS_385 : FnExactExampleEndsS (DD 385) := by unfold FnExactExampleEndsS; intros; refine lk (g := 385) rfl Try.func6 mslaws_FnExactExampleEnds ?_; apply FnExactExampleEnds_b _ dExampleEndsS_69 dExampleEndsS_115 deqEndpointSS_48 dmarkEndpointSS_53 dheldEndpointSS_58 <;> assumption
theorem den (av : List V) (h : ArgsV [.int .i64] av) : DD 385 av [] (B true) [] := by
  obtain ⟨v0, r0, h0, hr0, rfl⟩ := h
  obtain ⟨x0, rfl, w0⟩ := argI h0
  have z : r0 = [] := hr0
  subst z
  apply dFnExactExampleEndsS_385 <;> assumption
end Go.Eng.T

