/- Own work: part 45 of the proof of FnExactOkShare. -/
import Derived.Test.YtcgnjpoingikcaaP44
import Derived.Test.YtcgnjpoingikcaaProg
import Derived.KernelRfl
namespace Go.Eng.T
open Go.Proofs
def fidL : List (Option Nat) := [none, none, none, none, none, none, none, some 6, some 8, none, none, some 10, none, none, none, none, some 15, some 16, some 17, some 18, some 19, none, none, none, none, none, none, none, none, none, none, some 20, some 21, some 22, some 23, some 24, none, none, none, none, none, none, none, none, none, none, none, some 25, some 26, some 27, some 28, some 29, none, none, none, none, none, none, none, none, none, none, some 30, some 31, some 32, none, none, none, none, none, none, none, none, none, none, none, none, none, none, none, none, none, none, none, none, none, none, none, none, none, none, none, none, none, none, none, none, none, some 33, some 34, some 35, none, none, none, none, none, none, none, none, none, none, none, none, none, none, none, none, none, none, none, none, none, none, none, none, none, none, none, none, none, none, none, none, none, some 36, some 37, some 38, none, none, some 39, some 40, none, none, none, none, none, none, none, none, none, none, none, none, none, none, none, none, none, none, none, none, none, none, none, none, none, none, none, none, none, some 41, some 42, none, none, none, none, none, none, none, none, none, none, none, none, none, none, none, none, none, none, none, none, none, none, none, none, none, none, none, none, none, none, none, none, some 43, some 44, some 45, none, none, none, none, none, none, none, none, none, none, none, none, none, none, none, none, none, none, none, some 46, none, none, none, none, none, none, none, none, none, none, none, none, none, none, none, none, none, none, none, none, none, none, some 47, none, none, none, none, none, none, none, none, none, none, none, none, none, none, none, none, none, none, none, none, none, none, none, none, none, none, none, none, none, none, none, none, none, none, none, none, none, none, none, none, none, none, none, none, none, none, none, none, none, none, none, none, none, none, none, none, none, none, none, none, none, none, none, none, none, none, none, none, none, none, none, none, none, none, none, none, none, none, none, none, none, none, none, none, none, none, none, none, none, none, none, none, none, none, none, none, none, none, none, none, none, none, none, none, none, none, none, none, none, none, none, none, none, none, none, none, none, none, none, none, none, none, none, none, none, none, none, none, none, none, none, none, none, none, none, none, none, none, none, none, none, none, none, none, none, none, none, none, none, none, none, none, none, none, none, none, none, none, none, none, none, none, none, none, none, none, none, none, none, none, none, none, none, none, none, none, some 5, some 13, some 14, none, none, none, none, none, none, none, none, none, none, none, none, none, none, none, none, none, none, none, none, none, none, none, none, none]
def fid : Nat → Option FuncId := fun g => fidL.getD g none
theorem hmix : Try.prog.follows .mixedOrders = true := by kernel_rfl
theorem hFl : fidL.all (fun o => match o with | some f => okF Try.prog f | none => true) = true := by kernel_rfl
theorem hF : ∀ g f, fid g = some f → okF Try.prog f = true := by
  intro g f h
  have := List.all_eq_true.1 hFl (some f) (by
    unfold fid at h
    rw [List.getD_eq_getElem?_getD] at h
    cases hg : fidL[g]? with
    | none => simp [hg] at h
    | some o => simp [hg] at h; subst h; exact List.mem_of_getElem? hg)
  exact this
abbrev G0 : Nat → Prop := fun _ => False
abbrev DD : Dn := Den Try.prog fid G0
theorem lk {g : Nat} {f : FuncId} {fn : Func} {st : List Tmp} {sf : SFn} (hg : fid g = some f) (hfn : Try.prog.funcs[f]? = some fn) (hm : mFn Try.prog fid st sf fn = true) {a : List V} {gi : List O} {r : V} {o : List O}
    (h : Body DD sf a gi r o) : DD g a gi r o :=
  fn_sound hmix (fun _ _ _ _ _ h => h) hF (fun id hid => by rw [hg] at hid; cases hid; exact hfn) hm h
theorem msspec_OkShare : mFn Try.prog fid sspec_OkShare_t sspec_OkShare Try.f13 = true := by kernel_rfl
theorem msimpl_OkShare : mFn Try.prog fid simpl_OkShare_t simpl_OkShare Try.f14 = true := by kernel_rfl
theorem mslaws_szIntS : mFn Try.prog fid slaws_szIntS_t slaws_szIntS Try.f15 = true := by kernel_rfl
theorem mslaws_szBox : mFn Try.prog fid slaws_szBox_t slaws_szBox Try.f45 = true := by kernel_rfl
theorem mslaws_szBoxS : mFn Try.prog fid slaws_szBoxS_t slaws_szBoxS Try.f39 = true := by kernel_rfl
theorem mslaws_szEndpoint : mFn Try.prog fid slaws_szEndpoint_t slaws_szEndpoint Try.f30 = true := by kernel_rfl
theorem mslaws_szEndpointS : mFn Try.prog fid slaws_szEndpointS_t slaws_szEndpointS Try.f16 = true := by kernel_rfl
theorem mslaws_szRollout : mFn Try.prog fid slaws_szRollout_t slaws_szRollout Try.f17 = true := by kernel_rfl
theorem mslaws_szDeal : mFn Try.prog fid slaws_szDeal_t slaws_szDeal Try.f40 = true := by kernel_rfl
theorem mslaws_szDialed : mFn Try.prog fid slaws_szDialed_t slaws_szDialed Try.f31 = true := by kernel_rfl
theorem mslaws_szDialedS : mFn Try.prog fid slaws_szDialedS_t slaws_szDialedS Try.f18 = true := by kernel_rfl
theorem mslaws_szLogged : mFn Try.prog fid slaws_szLogged_t slaws_szLogged Try.f32 = true := by kernel_rfl
theorem mslaws_szLoggedS : mFn Try.prog fid slaws_szLoggedS_t slaws_szLoggedS Try.f19 = true := by kernel_rfl
theorem mslaws_szWorld : mFn Try.prog fid slaws_szWorld_t slaws_szWorld Try.f6 = true := by kernel_rfl
theorem mslaws_toIntS : mFn Try.prog fid slaws_toIntS_t slaws_toIntS Try.f20 = true := by kernel_rfl
theorem mslaws_toBox : mFn Try.prog fid slaws_toBox_t slaws_toBox Try.f46 = true := by kernel_rfl
theorem mslaws_toBoxS : mFn Try.prog fid slaws_toBoxS_t slaws_toBoxS Try.f41 = true := by kernel_rfl
theorem mslaws_toEndpoint : mFn Try.prog fid slaws_toEndpoint_t slaws_toEndpoint Try.f33 = true := by kernel_rfl
theorem mslaws_toEndpointS : mFn Try.prog fid slaws_toEndpointS_t slaws_toEndpointS Try.f21 = true := by kernel_rfl
theorem mslaws_toRollout : mFn Try.prog fid slaws_toRollout_t slaws_toRollout Try.f22 = true := by kernel_rfl
theorem mslaws_toDeal : mFn Try.prog fid slaws_toDeal_t slaws_toDeal Try.f42 = true := by kernel_rfl
theorem mslaws_toDialed : mFn Try.prog fid slaws_toDialed_t slaws_toDialed Try.f34 = true := by kernel_rfl
theorem mslaws_toDialedS : mFn Try.prog fid slaws_toDialedS_t slaws_toDialedS Try.f23 = true := by kernel_rfl
theorem mslaws_toLogged : mFn Try.prog fid slaws_toLogged_t slaws_toLogged Try.f35 = true := by kernel_rfl
theorem mslaws_toLoggedS : mFn Try.prog fid slaws_toLoggedS_t slaws_toLoggedS Try.f24 = true := by kernel_rfl
theorem mslaws_toWorld : mFn Try.prog fid slaws_toWorld_t slaws_toWorld Try.f8 = true := by kernel_rfl
theorem mslaws_eqIntS : mFn Try.prog fid slaws_eqIntS_t slaws_eqIntS Try.f25 = true := by kernel_rfl
theorem mslaws_eqBox : mFn Try.prog fid slaws_eqBox_t slaws_eqBox Try.f47 = true := by kernel_rfl
theorem mslaws_eqBoxS : mFn Try.prog fid slaws_eqBoxS_t slaws_eqBoxS Try.f43 = true := by kernel_rfl
theorem mslaws_eqEndpoint : mFn Try.prog fid slaws_eqEndpoint_t slaws_eqEndpoint Try.f36 = true := by kernel_rfl
theorem mslaws_eqEndpointS : mFn Try.prog fid slaws_eqEndpointS_t slaws_eqEndpointS Try.f26 = true := by kernel_rfl
theorem mslaws_eqRollout : mFn Try.prog fid slaws_eqRollout_t slaws_eqRollout Try.f27 = true := by kernel_rfl
theorem mslaws_eqDeal : mFn Try.prog fid slaws_eqDeal_t slaws_eqDeal Try.f44 = true := by kernel_rfl
theorem mslaws_eqDialed : mFn Try.prog fid slaws_eqDialed_t slaws_eqDialed Try.f37 = true := by kernel_rfl
theorem mslaws_eqDialedS : mFn Try.prog fid slaws_eqDialedS_t slaws_eqDialedS Try.f28 = true := by kernel_rfl
theorem mslaws_eqLogged : mFn Try.prog fid slaws_eqLogged_t slaws_eqLogged Try.f38 = true := by kernel_rfl
theorem mslaws_eqLoggedS : mFn Try.prog fid slaws_eqLoggedS_t slaws_eqLoggedS Try.f29 = true := by kernel_rfl
theorem mslaws_eqWorld : mFn Try.prog fid slaws_eqWorld_t slaws_eqWorld Try.f10 = true := by kernel_rfl
theorem mslaws_FnExactOkShare : mFn Try.prog fid slaws_FnExactOkShare_t slaws_FnExactOkShare Try.f5 = true := by kernel_rfl
theorem dOkShareS_427 : OkShareS (DD 427) := by unfold OkShareS; intros; refine lk (g := 427) rfl Try.func13 msspec_OkShare ?_; apply sOkShare_b _  <;> assumption
theorem dOkShareS_428 : OkShareS (DD 428) := by unfold OkShareS; intros; refine lk (g := 428) rfl Try.func14 msimpl_OkShare ?_; apply iOkShare_b _  <;> assumption
theorem dszIntSS_16 : szIntSS (DD 16) := by unfold szIntSS; intros; refine lk (g := 16) rfl Try.func15 mslaws_szIntS ?_; apply szIntS_b _  <;> assumption
theorem dszBoxS_206 : szBoxS (DD 206) := by unfold szBoxS; intros; refine lk (g := 206) rfl Try.func45 mslaws_szBox ?_; apply szBox_b _ dszIntSS_16 <;> assumption
theorem dszBoxSS_139 : szBoxSS (DD 139) := by unfold szBoxSS; intros; refine lk (g := 139) rfl Try.func39 mslaws_szBoxS ?_; apply szBoxS_b _ dszBoxS_206 <;> assumption
theorem dszEndpointS_62 : szEndpointS (DD 62) := by unfold szEndpointS; intros; refine lk (g := 62) rfl Try.func30 mslaws_szEndpoint ?_; apply szEndpoint_b _ dszIntSS_16 dszBoxSS_139 <;> assumption
theorem dszEndpointSS_17 : szEndpointSS (DD 17) := by unfold szEndpointSS; intros; refine lk (g := 17) rfl Try.func16 mslaws_szEndpointS ?_; apply szEndpointS_b _ dszEndpointS_62 <;> assumption
theorem dszRolloutS_18 : szRolloutS (DD 18) := by unfold szRolloutS; intros; refine lk (g := 18) rfl Try.func17 mslaws_szRollout ?_; apply szRollout_b _ dszIntSS_16 <;> assumption
theorem dszDealS_140 : szDealS (DD 140) := by unfold szDealS; intros; refine lk (g := 140) rfl Try.func40 mslaws_szDeal ?_; apply szDeal_b _ dszIntSS_16 <;> assumption
theorem dszDialedS_63 : szDialedS (DD 63) := by unfold szDialedS; intros; refine lk (g := 63) rfl Try.func31 mslaws_szDialed ?_; apply szDialed_b _ dszDealS_140 dszIntSS_16 <;> assumption
theorem dszDialedSS_19 : szDialedSS (DD 19) := by unfold szDialedSS; intros; refine lk (g := 19) rfl Try.func18 mslaws_szDialedS ?_; apply szDialedS_b _ dszDialedS_63 <;> assumption
theorem dszLoggedS_64 : szLoggedS (DD 64) := by unfold szLoggedS; intros; refine lk (g := 64) rfl Try.func32 mslaws_szLogged ?_; apply szLogged_b _ dszDialedS_63 <;> assumption
theorem dszLoggedSS_20 : szLoggedSS (DD 20) := by unfold szLoggedSS; intros; refine lk (g := 20) rfl Try.func19 mslaws_szLoggedS ?_; apply szLoggedS_b _ dszLoggedS_64 <;> assumption
theorem dszWorldS_7 : szWorldS (DD 7) := by unfold szWorldS; intros; refine lk (g := 7) rfl Try.func6 mslaws_szWorld ?_; apply szWorld_b _ dszIntSS_16 dszEndpointSS_17 dszRolloutS_18 dszDialedSS_19 dszLoggedSS_20 <;> assumption
theorem dtoIntSS_31 : toIntSS (DD 31) := by unfold toIntSS; intros; refine lk (g := 31) rfl Try.func20 mslaws_toIntS ?_; apply toIntS_b _  <;> assumption
theorem dtoBoxS_226 : toBoxS (DD 226) := by unfold toBoxS; intros; refine lk (g := 226) rfl Try.func46 mslaws_toBox ?_; apply toBox_b _ dtoIntSS_31 <;> assumption
theorem dtoBoxSS_170 : toBoxSS (DD 170) := by unfold toBoxSS; intros; refine lk (g := 170) rfl Try.func41 mslaws_toBoxS ?_; apply toBoxS_b _ dtoBoxS_226 <;> assumption
theorem dtoEndpointS_98 : toEndpointS (DD 98) := by unfold toEndpointS; intros; refine lk (g := 98) rfl Try.func33 mslaws_toEndpoint ?_; apply toEndpoint_b _ dtoIntSS_31 dtoBoxSS_170 <;> assumption
theorem dtoEndpointSS_32 : toEndpointSS (DD 32) := by unfold toEndpointSS; intros; refine lk (g := 32) rfl Try.func21 mslaws_toEndpointS ?_; apply toEndpointS_b _ dtoEndpointS_98 <;> assumption
theorem dtoRolloutS_33 : toRolloutS (DD 33) := by unfold toRolloutS; intros; refine lk (g := 33) rfl Try.func22 mslaws_toRollout ?_; apply toRollout_b _ dtoIntSS_31 <;> assumption
theorem dtoDealS_171 : toDealS (DD 171) := by unfold toDealS; intros; refine lk (g := 171) rfl Try.func42 mslaws_toDeal ?_; apply toDeal_b _ dtoIntSS_31 <;> assumption
theorem dtoDialedS_99 : toDialedS (DD 99) := by unfold toDialedS; intros; refine lk (g := 99) rfl Try.func34 mslaws_toDialed ?_; apply toDialed_b _ dtoDealS_171 dtoIntSS_31 <;> assumption
theorem dtoDialedSS_34 : toDialedSS (DD 34) := by unfold toDialedSS; intros; refine lk (g := 34) rfl Try.func23 mslaws_toDialedS ?_; apply toDialedS_b _ dtoDialedS_99 <;> assumption
theorem dtoLoggedS_100 : toLoggedS (DD 100) := by unfold toLoggedS; intros; refine lk (g := 100) rfl Try.func35 mslaws_toLogged ?_; apply toLogged_b _ dtoDialedS_99 <;> assumption
theorem dtoLoggedSS_35 : toLoggedSS (DD 35) := by unfold toLoggedSS; intros; refine lk (g := 35) rfl Try.func24 mslaws_toLoggedS ?_; apply toLoggedS_b _ dtoLoggedS_100 <;> assumption
theorem dtoWorldS_8 : toWorldS (DD 8) := by unfold toWorldS; intros; refine lk (g := 8) rfl Try.func8 mslaws_toWorld ?_; apply toWorld_b _ dtoIntSS_31 dtoEndpointSS_32 dtoRolloutS_33 dtoDialedSS_34 dtoLoggedSS_35 <;> assumption
theorem deqIntSS_47 : eqIntSS (DD 47) := by unfold eqIntSS; intros; refine lk (g := 47) rfl Try.func25 mslaws_eqIntS ?_; apply eqIntS_b _  <;> assumption
theorem deqBoxS_249 : eqBoxS (DD 249) := by unfold eqBoxS; intros; refine lk (g := 249) rfl Try.func47 mslaws_eqBox ?_; apply eqBox_b _ deqIntSS_47 <;> assumption
theorem deqBoxSS_204 : eqBoxSS (DD 204) := by unfold eqBoxSS; intros; refine lk (g := 204) rfl Try.func43 mslaws_eqBoxS ?_; apply eqBoxS_b _ deqBoxS_249 <;> assumption
theorem deqEndpointS_134 : eqEndpointS (DD 134) := by unfold eqEndpointS; intros; refine lk (g := 134) rfl Try.func36 mslaws_eqEndpoint ?_; apply eqEndpoint_b _ deqIntSS_47 deqBoxSS_204 <;> assumption
theorem deqEndpointSS_48 : eqEndpointSS (DD 48) := by unfold eqEndpointSS; intros; refine lk (g := 48) rfl Try.func26 mslaws_eqEndpointS ?_; apply eqEndpointS_b _ deqEndpointS_134 <;> assumption
theorem deqRolloutS_49 : eqRolloutS (DD 49) := by unfold eqRolloutS; intros; refine lk (g := 49) rfl Try.func27 mslaws_eqRollout ?_; apply eqRollout_b _ deqIntSS_47 <;> assumption
theorem deqDealS_205 : eqDealS (DD 205) := by unfold eqDealS; intros; refine lk (g := 205) rfl Try.func44 mslaws_eqDeal ?_; apply eqDeal_b _ deqIntSS_47 <;> assumption
theorem deqDialedS_135 : eqDialedS (DD 135) := by unfold eqDialedS; intros; refine lk (g := 135) rfl Try.func37 mslaws_eqDialed ?_; apply eqDialed_b _ deqDealS_205 deqIntSS_47 <;> assumption
theorem deqDialedSS_50 : eqDialedSS (DD 50) := by unfold eqDialedSS; intros; refine lk (g := 50) rfl Try.func28 mslaws_eqDialedS ?_; apply eqDialedS_b _ deqDialedS_135 <;> assumption
theorem deqLoggedS_136 : eqLoggedS (DD 136) := by unfold eqLoggedS; intros; refine lk (g := 136) rfl Try.func38 mslaws_eqLogged ?_; apply eqLogged_b _ deqDialedS_135 <;> assumption
theorem deqLoggedSS_51 : eqLoggedSS (DD 51) := by unfold eqLoggedSS; intros; refine lk (g := 51) rfl Try.func29 mslaws_eqLoggedS ?_; apply eqLoggedS_b _ deqLoggedS_136 <;> assumption
theorem deqWorldS_11 : eqWorldS (DD 11) := by unfold eqWorldS; intros; refine lk (g := 11) rfl Try.func10 mslaws_eqWorld ?_; apply eqWorld_b _ deqIntSS_47 deqEndpointSS_48 deqRolloutS_49 deqDialedSS_50 deqLoggedSS_51 <;> assumption
theorem dFnExactOkShareS_426 : FnExactOkShareS (DD 426) := by unfold FnExactOkShareS; intros; refine lk (g := 426) rfl Try.func5 mslaws_FnExactOkShare ?_; apply FnExactOkShare_b _ dOkShareS_427 dOkShareS_428 dszWorldS_7 dtoWorldS_8 deqWorldS_11 <;> assumption
theorem den (av : List V) (h : ArgsV [tyWorld] av) : DD 426 av [] (B true) [] := by
  obtain ⟨v0, r0, h0, hr0, rfl⟩ := h
  obtain ⟨x0, rfl, l0, w0⟩ := argWorld h0
  have z : r0 = [] := hr0
  subst z
  apply dFnExactOkShareS_426 <;> assumption
end Go.Eng.T

