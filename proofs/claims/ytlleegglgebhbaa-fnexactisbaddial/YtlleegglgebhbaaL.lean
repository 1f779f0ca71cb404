/- Own work: part 44 of the proof of FnExactIsBadDial. -/
import Derived.Test.YtlleegglgebhbaaP43
import Derived.Test.YtlleegglgebhbaaProg
import Derived.KernelRfl
namespace Go.Eng.T
open Go.Proofs
def fidL : List (Option Nat) := [none, none, none, none, none, none, none, none, none, none, none, none, none, none, none, none, some 27, none, none, none, none, none, none, none, none, none, none, none, none, none, none, some 30, none, none, none, none, none, none, none, none, none, none, none, none, none, none, none, some 33, none, none, none, none, none, none, none, none, none, none, none, none, none, none, none, some 9, none, none, none, none, none, none, none, none, none, none, none, none, none, none, none, none, none, none, none, none, none, none, none, none, none, none, none, none, none, none, none, none, none, none, none, some 11, none, none, none, none, none, none, none, none, none, none, none, none, none, none, none, none, none, none, none, none, none, none, none, none, none, none, none, none, none, none, none, none, none, none, none, some 13, none, none, none, none, some 26, none, none, none, some 10, none, none, none, none, none, none, none, none, none, none, some 28, none, none, none, none, none, none, none, none, none, none, some 42, none, none, none, none, some 29, none, none, none, some 12, none, none, none, none, none, none, none, none, none, none, none, none, some 43, none, none, none, none, none, none, none, none, none, none, none, none, none, none, none, none, some 32, none, none, none, none, none, none, none, none, none, none, none, none, none, none, none, none, none, none, none, none, none, none, none, some 31, none, none, none, none, none, none, none, none, none, none, none, none, none, none, none, none, none, none, none, none, none, none, none, none, none, none, none, none, none, none, none, none, none, none, none, none, none, none, none, none, none, none, none, none, none, none, none, none, none, none, none, none, none, none, none, none, none, none, none, none, none, none, none, none, none, none, none, none, none, none, none, none, none, none, none, none, none, none, none, none, none, none, none, none, none, none, none, none, none, none, none, none, none, none, none, none, none, none, none, none, none, none, none, none, none, none, none, none, none, none, none, none, none, none, none, none, none, none, none, none, none, none, none, none, none, none, none, none, none, none, none, none, none, none, none, none, none, none, none, none, none, none, none, none, none, none, none, none, some 4, none, none, none, none, none, none, none, none, none, none, some 48]
def fid : Nat → Option FuncId := fun g => fidL.getD g none
theorem hmix : Try.prog.follows .mixedOrders = true := by kernel_rfl
theorem hFl : fidL.all (fun o => match o with | some f => okF Try.prog f | none => true) = true := by kernel_rfl
theorem hF : ∀ g f, fid g = some f → okF Try.prog f = true := by
  intro g f h
  have := List.all_eq_true.1 hFl (some f) (by
    unfold fid at h
    rw [List.getD_eq_getElem?_getD] at h
    cases hg : fidL[g]? with
    | none => simp [hg] at h
    | some o => simp [hg] at h; subst h; exact List.mem_of_getElem? hg)
  exact this
abbrev G0 : Nat → Prop := fun _ => False
abbrev DD : Dn := Den Try.prog fid G0
theorem lk {g : Nat} {f : FuncId} {fn : Func} {st : List Tmp} {sf : SFn} (hg : fid g = some f) (hfn : Try.prog.funcs[f]? = some fn) (hm : mFn Try.prog fid st sf fn = true) {a : List V} {gi : List O} {r : V} {o : List O}
    (h : Body DD sf a gi r o) : DD g a gi r o :=
  fn_sound hmix (fun _ _ _ _ _ h => h) hF (fun id hid => by rw [hg] at hid; cases hid; exact hfn) hm h
theorem mslaws_szIntS : mFn Try.prog fid slaws_szIntS_t slaws_szIntS Try.f27 = true := by kernel_rfl
theorem mslaws_szDeal : mFn Try.prog fid slaws_szDeal_t slaws_szDeal Try.f26 = true := by kernel_rfl
theorem mslaws_szDialed : mFn Try.prog fid slaws_szDialed_t slaws_szDialed Try.f9 = true := by kernel_rfl
theorem mslaws_toIntS : mFn Try.prog fid slaws_toIntS_t slaws_toIntS Try.f30 = true := by kernel_rfl
theorem mslaws_toDeal : mFn Try.prog fid slaws_toDeal_t slaws_toDeal Try.f29 = true := by kernel_rfl
theorem mslaws_toDialed : mFn Try.prog fid slaws_toDialed_t slaws_toDialed Try.f11 = true := by kernel_rfl
theorem msspec_l9Has : mFn Try.prog fid sspec_l9Has_t sspec_l9Has Try.f42 = true := by kernel_rfl
theorem msspec_MaskedBy : mFn Try.prog fid sspec_MaskedBy_t sspec_MaskedBy Try.f28 = true := by kernel_rfl
theorem msspec_IsBadDial : mFn Try.prog fid sspec_IsBadDial_t sspec_IsBadDial Try.f10 = true := by kernel_rfl
theorem msslices_Index___int_int_ : mFn Try.prog fid sslices_Index___int_int__t sslices_Index___int_int_ Try.f48 = true := by kernel_rfl
theorem msslices_Contains___int_int_ : mFn Try.prog fid sslices_Contains___int_int__t sslices_Contains___int_int_ Try.f43 = true := by kernel_rfl
theorem msimpl_isBad : mFn Try.prog fid simpl_isBad_t simpl_isBad Try.f31 = true := by kernel_rfl
theorem msimpl_IsBadDial : mFn Try.prog fid simpl_IsBadDial_t simpl_IsBadDial Try.f12 = true := by kernel_rfl
theorem mslaws_eqIntS : mFn Try.prog fid slaws_eqIntS_t slaws_eqIntS Try.f33 = true := by kernel_rfl
theorem mslaws_eqDeal : mFn Try.prog fid slaws_eqDeal_t slaws_eqDeal Try.f32 = true := by kernel_rfl
theorem mslaws_eqDialed : mFn Try.prog fid slaws_eqDialed_t slaws_eqDialed Try.f13 = true := by kernel_rfl
theorem mslaws_FnExactIsBadDial : mFn Try.prog fid slaws_FnExactIsBadDial_t slaws_FnExactIsBadDial Try.f4 = true := by kernel_rfl
theorem dszIntSS_16 : szIntSS (DD 16) := by unfold szIntSS; intros; refine lk (g := 16) rfl Try.func27 mslaws_szIntS ?_; apply szIntS_b _  <;> assumption
theorem dszDealS_140 : szDealS (DD 140) := by unfold szDealS; intros; refine lk (g := 140) rfl Try.func26 mslaws_szDeal ?_; apply szDeal_b _ dszIntSS_16 <;> assumption
theorem dszDialedS_63 : szDialedS (DD 63) := by unfold szDialedS; intros; refine lk (g := 63) rfl Try.func9 mslaws_szDialed ?_; apply szDialed_b _ dszDealS_140 dszIntSS_16 <;> assumption
theorem dtoIntSS_31 : toIntSS (DD 31) := by unfold toIntSS; intros; refine lk (g := 31) rfl Try.func30 mslaws_toIntS ?_; apply toIntS_b _  <;> assumption
theorem dtoDealS_171 : toDealS (DD 171) := by unfold toDealS; intros; refine lk (g := 171) rfl Try.func29 mslaws_toDeal ?_; apply toDeal_b _ dtoIntSS_31 <;> assumption
theorem dtoDialedS_99 : toDialedS (DD 99) := by unfold toDialedS; intros; refine lk (g := 99) rfl Try.func11 mslaws_toDialed ?_; apply toDialed_b _ dtoDealS_171 dtoIntSS_31 <;> assumption
theorem dHasS_166 : HasS (DD 166) := by unfold HasS; intros; refine lk (g := 166) rfl Try.func42 msspec_l9Has ?_; apply l9Has_b _  <;> assumption
theorem dMaskedByS_155 : MaskedByS (DD 155) := by unfold MaskedByS; intros; refine lk (g := 155) rfl Try.func28 msspec_MaskedBy ?_; apply sMaskedBy_b _ dHasS_166 <;> assumption
theorem dIsBadDialS_144 : IsBadDialS (DD 144) := by unfold IsBadDialS; intros; refine lk (g := 144) rfl Try.func10 msspec_IsBadDial ?_; apply sIsBadDial_b _ dMaskedByS_155 <;> assumption
theorem dIndexS_389 : IndexS (DD 389) := by unfold IndexS; intros; refine lk (g := 389) rfl Try.func48 msslices_Index___int_int_ ?_; apply Index_b _  <;> assumption
theorem dHasS_188 : HasS (DD 188) := by unfold HasS; intros; refine lk (g := 188) rfl Try.func43 msslices_Contains___int_int_ ?_; apply Contains_b _ dIndexS_389 <;> assumption
theorem dIsBadDialS_229 : IsBadDialS (DD 229) := by unfold IsBadDialS; intros; refine lk (g := 229) rfl Try.func31 msimpl_isBad ?_; apply isBad_b _ dHasS_188 <;> assumption
theorem dIsBadDialS_175 : IsBadDialS (DD 175) := by unfold IsBadDialS; intros; refine lk (g := 175) rfl Try.func12 msimpl_IsBadDial ?_; apply iIsBadDial_b _ dIsBadDialS_229 <;> assumption
theorem deqIntSS_47 : eqIntSS (DD 47) := by unfold eqIntSS; intros; refine lk (g := 47) rfl Try.func33 mslaws_eqIntS ?_; apply eqIntS_b _  <;> assumption
theorem deqDealS_205 : eqDealS (DD 205) := by unfold eqDealS; intros; refine lk (g := 205) rfl Try.func32 mslaws_eqDeal ?_; apply eqDeal_b _ deqIntSS_47 <;> assumption
theorem deqDialedS_135 : eqDialedS (DD 135) := by unfold eqDialedS; intros; refine lk (g := 135) rfl Try.func13 mslaws_eqDialed ?_; apply eqDialed_b _ deqDealS_205 deqIntSS_47 <;> assumption
theorem dFnExactIsBadDialS_378 : FnExactIsBadDialS (DD 378) := by unfold FnExactIsBadDialS; intros; refine lk (g := 378) rfl Try.func4 mslaws_FnExactIsBadDial ?_; apply FnExactIsBadDial_b _ dszDialedS_63 dtoDialedS_99 dIsBadDialS_144 dIsBadDialS_175 deqDialedS_135 <;> assumption
theorem den (av : List V) (h : ArgsV [tyDialed, .int .i64] av) : DD 378 av [] (B true) [] := by
  obtain ⟨v0, r0, h0, hr0, rfl⟩ := h
  obtain ⟨x0, rfl, l0, w0⟩ := argDialed h0
  obtain ⟨v1, r1, h1, hr1, rfl⟩ := hr0
  obtain ⟨x1, rfl, w1⟩ := argI h1
  have z : r1 = [] := hr1
  subst z
  apply dFnExactIsBadDialS_378 <;> assumption
end Go.Eng.T

