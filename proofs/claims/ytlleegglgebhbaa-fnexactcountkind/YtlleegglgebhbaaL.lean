/- Own work: part 44 of the proof of FnExactCountKind. -/
import Derived.Test.YtlleegglgebhbaaP43
import Derived.Test.YtlleegglgebhbaaProg
import Derived.KernelRfl
namespace Go.Eng.T
open Go.Proofs
def fidL : List (Option Nat) := [none, none, none, none, none, none, none, none, none, none, none, none, none, none, none, none, some 27, none, none, none, none, none, none, none, none, none, none, none, none, none, none, some 30, none, none, none, none, none, none, none, none, none, none, none, none, none, none, none, some 33, none, none, none, none, none, none, none, none, none, none, none, none, none, none, none, none, none, none, none, none, none, none, none, none, none, none, none, none, none, none, none, none, none, none, none, none, none, none, none, none, none, none, none, none, none, none, none, none, none, none, none, none, none, none, none, none, none, none, none, none, none, none, none, none, none, none, none, none, none, none, none, none, none, none, none, none, none, none, none, none, none, none, none, none, none, none, none, none, none, none, none, none, none, none, none, none, none, none, none, none, none, none, none, none, none, none, none, none, none, none, none, none, none, none, none, none, none, none, none, none, none, none, none, none, none, none, none, none, none, none, none, none, none, none, none, none, none, none, none, none, none, none, none, none, none, none, none, none, none, none, none, none, none, none, none, none, none, none, some 44, none, none, none, none, none, none, none, none, none, none, none, none, none, none, none, none, none, none, none, some 45, none, none, none, none, none, none, none, none, none, none, none, none, none, none, none, none, none, none, none, none, none, none, some 46, none, none, none, none, none, none, none, none, none, none, none, none, none, none, none, none, none, none, none, none, none, none, none, none, none, none, none, none, none, none, none, none, none, none, none, none, none, none, none, none, none, none, none, none, none, none, none, none, none, none, none, none, none, none, none, none, none, none, none, none, none, none, none, none, none, none, none, none, none, none, none, none, none, none, none, none, none, none, none, none, none, none, none, none, none, none, none, none, none, none, none, none, none, none, none, none, none, none, none, none, none, none, none, none, none, none, none, none, none, none, none, none, none, none, none, none, none, none, none, none, none, none, none, none, none, none, none, none, none, some 5, some 14, some 16, some 15, some 17, some 18, none, some 34, some 35, some 36, none]
def fid : Nat → Option FuncId := fun g => fidL.getD g none
theorem hmix : Try.prog.follows .mixedOrders = true := by kernel_rfl
theorem hFl : fidL.all (fun o => match o with | some f => okF Try.prog f | none => true) = true := by kernel_rfl
theorem hF : ∀ g f, fid g = some f → okF Try.prog f = true := by
  intro g f h
  have := List.all_eq_true.1 hFl (some f) (by
    unfold fid at h
    rw [List.getD_eq_getElem?_getD] at h
    cases hg : fidL[g]? with
    | none => simp [hg] at h
    | some o => simp [hg] at h; subst h; exact List.mem_of_getElem? hg)
  exact this
abbrev G0 : Nat → Prop := fun _ => False
abbrev DD : Dn := Den Try.prog fid G0
theorem lk {g : Nat} {f : FuncId} {fn : Func} {st : List Tmp} {sf : SFn} (hg : fid g = some f) (hfn : Try.prog.funcs[f]? = some fn) (hm : mFn Try.prog fid st sf fn = true) {a : List V} {gi : List O} {r : V} {o : List O}
    (h : Body DD sf a gi r o) : DD g a gi r o :=
  fn_sound hmix (fun _ _ _ _ _ h => h) hF (fun id hid => by rw [hg] at hid; cases hid; exact hfn) hm h
theorem mslaws_szIntS : mFn Try.prog fid slaws_szIntS_t slaws_szIntS Try.f27 = true := by kernel_rfl
theorem mslaws_szBox : mFn Try.prog fid slaws_szBox_t slaws_szBox Try.f44 = true := by kernel_rfl
theorem mslaws_szEvent : mFn Try.prog fid slaws_szEvent_t slaws_szEvent Try.f34 = true := by kernel_rfl
theorem mslaws_szEventS : mFn Try.prog fid slaws_szEventS_t slaws_szEventS Try.f14 = true := by kernel_rfl
theorem mslaws_toIntS : mFn Try.prog fid slaws_toIntS_t slaws_toIntS Try.f30 = true := by kernel_rfl
theorem mslaws_toBox : mFn Try.prog fid slaws_toBox_t slaws_toBox Try.f45 = true := by kernel_rfl
theorem mslaws_toEvent : mFn Try.prog fid slaws_toEvent_t slaws_toEvent Try.f35 = true := by kernel_rfl
theorem mslaws_toEventS : mFn Try.prog fid slaws_toEventS_t slaws_toEventS Try.f16 = true := by kernel_rfl
theorem msspec_CountKind : mFn Try.prog fid sspec_CountKind_t sspec_CountKind Try.f15 = true := by kernel_rfl
theorem msimpl_CountKind : mFn Try.prog fid simpl_CountKind_t simpl_CountKind Try.f17 = true := by kernel_rfl
theorem mslaws_eqIntS : mFn Try.prog fid slaws_eqIntS_t slaws_eqIntS Try.f33 = true := by kernel_rfl
theorem mslaws_eqBox : mFn Try.prog fid slaws_eqBox_t slaws_eqBox Try.f46 = true := by kernel_rfl
theorem mslaws_eqEvent : mFn Try.prog fid slaws_eqEvent_t slaws_eqEvent Try.f36 = true := by kernel_rfl
theorem mslaws_eqEventS : mFn Try.prog fid slaws_eqEventS_t slaws_eqEventS Try.f18 = true := by kernel_rfl
theorem mslaws_FnExactCountKind : mFn Try.prog fid slaws_FnExactCountKind_t slaws_FnExactCountKind Try.f5 = true := by kernel_rfl
theorem dszIntSS_16 : szIntSS (DD 16) := by unfold szIntSS; intros; refine lk (g := 16) rfl Try.func27 mslaws_szIntS ?_; apply szIntS_b _  <;> assumption
theorem dszBoxS_206 : szBoxS (DD 206) := by unfold szBoxS; intros; refine lk (g := 206) rfl Try.func44 mslaws_szBox ?_; apply szBox_b _ dszIntSS_16 <;> assumption
theorem dszEventS_386 : szEventS (DD 386) := by unfold szEventS; intros; refine lk (g := 386) rfl Try.func34 mslaws_szEvent ?_; apply szEvent_b _ dszBoxS_206 <;> assumption
theorem dszEventSS_380 : szEventSS (DD 380) := by unfold szEventSS; intros; refine lk (g := 380) rfl Try.func14 mslaws_szEventS ?_; apply szEventS_b _ dszEventS_386 <;> assumption
theorem dtoIntSS_31 : toIntSS (DD 31) := by unfold toIntSS; intros; refine lk (g := 31) rfl Try.func30 mslaws_toIntS ?_; apply toIntS_b _  <;> assumption
theorem dtoBoxS_226 : toBoxS (DD 226) := by unfold toBoxS; intros; refine lk (g := 226) rfl Try.func45 mslaws_toBox ?_; apply toBox_b _ dtoIntSS_31 <;> assumption
theorem dtoEventS_387 : toEventS (DD 387) := by unfold toEventS; intros; refine lk (g := 387) rfl Try.func35 mslaws_toEvent ?_; apply toEvent_b _ dtoBoxS_226 <;> assumption
theorem dtoEventSS_381 : toEventSS (DD 381) := by unfold toEventSS; intros; refine lk (g := 381) rfl Try.func16 mslaws_toEventS ?_; apply toEventS_b _ dtoEventS_387 <;> assumption
theorem dCountKindS_382 : CountKindS (DD 382) := by unfold CountKindS; intros; refine lk (g := 382) rfl Try.func15 msspec_CountKind ?_; apply sCountKind_b _  <;> assumption
theorem dCountKindS_383 : CountKindS (DD 383) := by unfold CountKindS; intros; refine lk (g := 383) rfl Try.func17 msimpl_CountKind ?_; apply iCountKind_b _  <;> assumption
theorem deqIntSS_47 : eqIntSS (DD 47) := by unfold eqIntSS; intros; refine lk (g := 47) rfl Try.func33 mslaws_eqIntS ?_; apply eqIntS_b _  <;> assumption
theorem deqBoxS_249 : eqBoxS (DD 249) := by unfold eqBoxS; intros; refine lk (g := 249) rfl Try.func46 mslaws_eqBox ?_; apply eqBox_b _ deqIntSS_47 <;> assumption
theorem deqEventS_388 : eqEventS (DD 388) := by unfold eqEventS; intros; refine lk (g := 388) rfl Try.func36 mslaws_eqEvent ?_; apply eqEvent_b _ deqBoxS_249 <;> assumption
theorem deqEventSS_384 : eqEventSS (DD 384) := by unfold eqEventSS; intros; refine lk (g := 384) rfl Try.func18 mslaws_eqEventS ?_; apply eqEventS_b _ deqEventS_388 <;> assumption
theorem dFnExactCountKindS_379 : FnExactCountKindS (DD 379) := by unfold FnExactCountKindS; intros; refine lk (g := 379) rfl Try.func5 mslaws_FnExactCountKind ?_; apply FnExactCountKind_b _ dszEventSS_380 dtoEventSS_381 dCountKindS_382 dCountKindS_383 deqEventSS_384 <;> assumption
theorem den (av : List V) (h : ArgsV [.sl tyEvent, .int .i64] av) : DD 379 av [] (B true) [] := by
  obtain ⟨v0, r0, h0, hr0, rfl⟩ := h
  obtain ⟨x0, rfl, l0, w0⟩ := argEventS h0
  obtain ⟨v1, r1, h1, hr1, rfl⟩ := hr0
  obtain ⟨x1, rfl, w1⟩ := argI h1
  have z : r1 = [] := hr1
  subst z
  apply dFnExactCountKindS_379 <;> assumption
end Go.Eng.T

