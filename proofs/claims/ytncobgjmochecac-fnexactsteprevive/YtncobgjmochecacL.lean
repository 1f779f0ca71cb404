/- Own work: part 46 of the proof of FnExactStepRevive. -/
import Derived.Test.YtncobgjmochecacP45
import Derived.Test.YtncobgjmochecacProg
import Derived.KernelRfl
namespace Go.Eng.T
open Go.Proofs
def fidL : List (Option Nat) := [none, none, none, none, none, none, none, some 4, some 6, none, none, some 8, some 9, some 10, none, none, some 11, some 12, some 13, some 14, some 15, none, some 16, none, none, none, none, none, none, none, none, some 18, some 19, some 20, some 21, some 22, none, none, some 23, none, none, none, none, none, none, none, none, some 25, some 26, some 27, some 28, some 29, some 30, some 31, some 32, some 33, some 34, some 35, some 36, some 37, some 38, some 39, some 40, some 41, some 42, some 43, some 44, some 45, none, none, none, some 47, none, none, none, none, none, some 5, none, none, none, none, none, none, none, none, none, none, none, none, none, none, none, none, none, none, none, none, some 50, some 51, some 52, some 53, some 54, some 55, none, none, none, none, none, none, some 7, none, none, none, some 57, none, none, none, none, none, none, none, none, none, none, none, none, none, none, none, none, none, none, none, some 60, some 61, some 62, some 63, some 64, some 65, some 66, none, none, none, none, none, none, none, none, none, none, some 17, none, none, none, none, none, none, none, some 49, none, none, none, none, none, none, some 48, none, none, none, some 67, some 68, some 69, none, none, none, none, none, none, none, none, none, some 24, none, none, none, none, none, some 58, none, none, none, none, none, none, none, none, some 59, none, none, none, none, none, none, some 73, some 74, some 75, none, some 46, none, none, none, none, none, none, none, none, none, none, none, none, none, none, none, none, none, some 76, none, none, none, none, none, some 56, none, none, none, none, none, none, none, none, none, none, none, none, none, none, none, none, some 88, none, none, none, none, none, none, none, none, none, none, none, none, none, none, none, none, none, none, none, none, none, none, none, none, none, none, none, none, none, none, none, none, none, none, none, none, none, none, none, none, none, none, none, none, none, none, none, none, none, none, none, none, none, none, none, none, none, none, none, none, none, none, none, none, none, none, none, none, none, none, none, none, none, none, none, none, none, none, none, none, none, none, none, none, none, none, none, none, none, none, none, none, none, none, none, none, none, none, none, none, none, none, none, none, none, none, none, none, none, none, none, none, none, none, none, none, none, none, none, none, none, none, none, none, none, none, none, none, none, none, none, none, none, none, none, none, none, none, none, some 70, none, none, none, none, none, none, none, none, none, none, none, none, none, none, none, none, none, none, none, none, none, none, none, none, none, none, none, none, none, none, none, none, none, none, none, none, none, none, none, none, none, none, none, none, none, none, none, none, none, none, none, none, none, none, none, none, none, none, none, none, none, none, none, none, none, none, none, none, some 3, none, none, none, none, none, none, none, none, none, none, none, none, none, none, none, none, none, none, none, none, none, none, none, none, none, none, none, none, none, none, none, none, none, none, none, none, none, none, none, none, none, none, none, none, none, none, none, none, none, none, none, none]
def fid : Nat → Option FuncId := fun g => fidL.getD g none
theorem hmix : Try.prog.follows .mixedOrders = true := by kernel_rfl
theorem hFl : fidL.all (fun o => match o with | some f => okF Try.prog f | none => true) = true := by kernel_rfl
theorem hF : ∀ g f, fid g = some f → okF Try.prog f = true := by
  intro g f h
  have := List.all_eq_true.1 hFl (some f) (by
    unfold fid at h
    rw [List.getD_eq_getElem?_getD] at h
    cases hg : fidL[g]? with
    | none => simp [hg] at h
    | some o => simp [hg] at h; subst h; exact List.mem_of_getElem? hg)
  exact this
abbrev G0 : Gl := ⟨fun _ => False, fun _ => none⟩
abbrev DD : Dn := Den Try.prog fid G0
theorem lk {g : Nat} {f : FuncId} {fn : Func} {st : List Tmp} {sf : SFn} (hg : fid g = some f) (hfn : Try.prog.funcs[f]? = some fn) (hm : mFn Try.prog fid st sf fn = true) {a : List V} {gi : List O} {r : V} {o : List O}
    (h : Body DD sf a gi r o) : DD g a gi r o :=
  fn_sound hmix (fun _ _ _ _ _ h => h) hF (fun id hid => by rw [hg] at hid; cases hid; exact hfn) hm h
theorem msspec_l32End : mFn Try.prog fid sspec_l32End_t sspec_l32End Try.f43 = true := by kernel_rfl
theorem msspec_l26Copy : mFn Try.prog fid sspec_l26Copy_t sspec_l26Copy Try.f44 = true := by kernel_rfl
theorem msspec_l32Dialed : mFn Try.prog fid sspec_l32Dialed_t sspec_l32Dialed Try.f45 = true := by kernel_rfl
theorem msspec_l32Copy : mFn Try.prog fid sspec_l32Copy_t sspec_l32Copy Try.f16 = true := by kernel_rfl
theorem msspec_l1In : mFn Try.prog fid sspec_l1In_t sspec_l1In Try.f47 = true := by kernel_rfl
theorem msspec_AreVersions : mFn Try.prog fid sspec_AreVersions_t sspec_AreVersions Try.f46 = true := by kernel_rfl
theorem msspec_l9Has : mFn Try.prog fid sspec_l9Has_t sspec_l9Has Try.f48 = true := by kernel_rfl
theorem msspec_l4Put : mFn Try.prog fid sspec_l4Put_t sspec_l4Put Try.f49 = true := by kernel_rfl
theorem msspec_AddVersion : mFn Try.prog fid sspec_AddVersion_t sspec_AddVersion Try.f17 = true := by kernel_rfl
theorem msspec_StepRevive : mFn Try.prog fid sspec_StepRevive_t sspec_StepRevive Try.f5 = true := by kernel_rfl
theorem msimpl_copyPath : mFn Try.prog fid simpl_copyPath_t simpl_copyPath Try.f69 = true := by kernel_rfl
theorem msimpl_copyEndpoint : mFn Try.prog fid simpl_copyEndpoint_t simpl_copyEndpoint Try.f54 = true := by kernel_rfl
theorem msimpl_copyRollout : mFn Try.prog fid simpl_copyRollout_t simpl_copyRollout Try.f53 = true := by kernel_rfl
theorem msimpl_copyDialed : mFn Try.prog fid simpl_copyDialed_t simpl_copyDialed Try.f55 = true := by kernel_rfl
theorem msimpl_copyWorld : mFn Try.prog fid simpl_copyWorld_t simpl_copyWorld Try.f23 = true := by kernel_rfl
theorem msimpl_InRange : mFn Try.prog fid simpl_InRange_t simpl_InRange Try.f57 = true := by kernel_rfl
theorem msimpl_AreVersions : mFn Try.prog fid simpl_AreVersions_t simpl_AreVersions Try.f56 = true := by kernel_rfl
theorem msslices_Index___int_int_ : mFn Try.prog fid sslices_Index___int_int__t sslices_Index___int_int_ Try.f70 = true := by kernel_rfl
theorem msslices_Contains___int_int_ : mFn Try.prog fid sslices_Contains___int_int__t sslices_Contains___int_int_ Try.f58 = true := by kernel_rfl
theorem msimplV_AddVersion : mFn Try.prog fid simplV_AddVersion_t simplV_AddVersion Try.f24 = true := by kernel_rfl
theorem msimpl_StepRevive : mFn Try.prog fid simpl_StepRevive_t simpl_StepRevive Try.f7 = true := by kernel_rfl
theorem mslaws_szIntS : mFn Try.prog fid slaws_szIntS_t slaws_szIntS Try.f11 = true := by kernel_rfl
theorem mslaws_szBox : mFn Try.prog fid slaws_szBox_t slaws_szBox Try.f75 = true := by kernel_rfl
theorem mslaws_szBoxS : mFn Try.prog fid slaws_szBoxS_t slaws_szBoxS Try.f65 = true := by kernel_rfl
theorem mslaws_szEndpoint : mFn Try.prog fid slaws_szEndpoint_t slaws_szEndpoint Try.f40 = true := by kernel_rfl
theorem mslaws_szEndpointS : mFn Try.prog fid slaws_szEndpointS_t slaws_szEndpointS Try.f12 = true := by kernel_rfl
theorem mslaws_szRollout : mFn Try.prog fid slaws_szRollout_t slaws_szRollout Try.f13 = true := by kernel_rfl
theorem mslaws_szDeal : mFn Try.prog fid slaws_szDeal_t slaws_szDeal Try.f66 = true := by kernel_rfl
theorem mslaws_szDialed : mFn Try.prog fid slaws_szDialed_t slaws_szDialed Try.f41 = true := by kernel_rfl
theorem mslaws_szDialedS : mFn Try.prog fid slaws_szDialedS_t slaws_szDialedS Try.f14 = true := by kernel_rfl
theorem mslaws_szLogged : mFn Try.prog fid slaws_szLogged_t slaws_szLogged Try.f42 = true := by kernel_rfl
theorem mslaws_szLoggedS : mFn Try.prog fid slaws_szLoggedS_t slaws_szLoggedS Try.f15 = true := by kernel_rfl
theorem mslaws_szWorld : mFn Try.prog fid slaws_szWorld_t slaws_szWorld Try.f4 = true := by kernel_rfl
theorem mslaws_toIntS : mFn Try.prog fid slaws_toIntS_t slaws_toIntS Try.f18 = true := by kernel_rfl
theorem mslaws_toBox : mFn Try.prog fid slaws_toBox_t slaws_toBox Try.f76 = true := by kernel_rfl
theorem mslaws_toBoxS : mFn Try.prog fid slaws_toBoxS_t slaws_toBoxS Try.f67 = true := by kernel_rfl
theorem mslaws_toEndpoint : mFn Try.prog fid slaws_toEndpoint_t slaws_toEndpoint Try.f50 = true := by kernel_rfl
theorem mslaws_toEndpointS : mFn Try.prog fid slaws_toEndpointS_t slaws_toEndpointS Try.f19 = true := by kernel_rfl
theorem mslaws_toRollout : mFn Try.prog fid slaws_toRollout_t slaws_toRollout Try.f20 = true := by kernel_rfl
theorem mslaws_toDeal : mFn Try.prog fid slaws_toDeal_t slaws_toDeal Try.f68 = true := by kernel_rfl
theorem mslaws_toDialed : mFn Try.prog fid slaws_toDialed_t slaws_toDialed Try.f51 = true := by kernel_rfl
theorem mslaws_toDialedS : mFn Try.prog fid slaws_toDialedS_t slaws_toDialedS Try.f21 = true := by kernel_rfl
theorem mslaws_toLogged : mFn Try.prog fid slaws_toLogged_t slaws_toLogged Try.f52 = true := by kernel_rfl
theorem mslaws_toLoggedS : mFn Try.prog fid slaws_toLoggedS_t slaws_toLoggedS Try.f22 = true := by kernel_rfl
theorem mslaws_toWorld : mFn Try.prog fid slaws_toWorld_t slaws_toWorld Try.f6 = true := by kernel_rfl
theorem mslaws_eqIntS : mFn Try.prog fid slaws_eqIntS_t slaws_eqIntS Try.f25 = true := by kernel_rfl
theorem mslaws_eqBox : mFn Try.prog fid slaws_eqBox_t slaws_eqBox Try.f88 = true := by kernel_rfl
theorem mslaws_eqBoxS : mFn Try.prog fid slaws_eqBoxS_t slaws_eqBoxS Try.f73 = true := by kernel_rfl
theorem mslaws_eqEndpoint : mFn Try.prog fid slaws_eqEndpoint_t slaws_eqEndpoint Try.f60 = true := by kernel_rfl
theorem mslaws_eqEndpointS : mFn Try.prog fid slaws_eqEndpointS_t slaws_eqEndpointS Try.f26 = true := by kernel_rfl
theorem mslaws_eqRollout : mFn Try.prog fid slaws_eqRollout_t slaws_eqRollout Try.f27 = true := by kernel_rfl
theorem mslaws_eqDeal : mFn Try.prog fid slaws_eqDeal_t slaws_eqDeal Try.f74 = true := by kernel_rfl
theorem mslaws_eqDialed : mFn Try.prog fid slaws_eqDialed_t slaws_eqDialed Try.f61 = true := by kernel_rfl
theorem mslaws_eqDialedS : mFn Try.prog fid slaws_eqDialedS_t slaws_eqDialedS Try.f28 = true := by kernel_rfl
theorem mslaws_eqLogged : mFn Try.prog fid slaws_eqLogged_t slaws_eqLogged Try.f62 = true := by kernel_rfl
theorem mslaws_eqLoggedS : mFn Try.prog fid slaws_eqLoggedS_t slaws_eqLoggedS Try.f29 = true := by kernel_rfl
theorem mslaws_eqWorld : mFn Try.prog fid slaws_eqWorld_t slaws_eqWorld Try.f8 = true := by kernel_rfl
theorem mslaws_markIntS : mFn Try.prog fid slaws_markIntS_t slaws_markIntS Try.f30 = true := by kernel_rfl
theorem mslaws_markBoxS : mFn Try.prog fid slaws_markBoxS_t slaws_markBoxS Try.f63 = true := by kernel_rfl
theorem mslaws_markEndpointS : mFn Try.prog fid slaws_markEndpointS_t slaws_markEndpointS Try.f31 = true := by kernel_rfl
theorem mslaws_markRollout : mFn Try.prog fid slaws_markRollout_t slaws_markRollout Try.f32 = true := by kernel_rfl
theorem mslaws_markDialedS : mFn Try.prog fid slaws_markDialedS_t slaws_markDialedS Try.f33 = true := by kernel_rfl
theorem mslaws_markLoggedS : mFn Try.prog fid slaws_markLoggedS_t slaws_markLoggedS Try.f34 = true := by kernel_rfl
theorem mslaws_markWorld : mFn Try.prog fid slaws_markWorld_t slaws_markWorld Try.f9 = true := by kernel_rfl
theorem mslaws_heldIntS : mFn Try.prog fid slaws_heldIntS_t slaws_heldIntS Try.f35 = true := by kernel_rfl
theorem mslaws_heldBoxS : mFn Try.prog fid slaws_heldBoxS_t slaws_heldBoxS Try.f64 = true := by kernel_rfl
theorem mslaws_heldEndpointS : mFn Try.prog fid slaws_heldEndpointS_t slaws_heldEndpointS Try.f36 = true := by kernel_rfl
theorem mslaws_heldRollout : mFn Try.prog fid slaws_heldRollout_t slaws_heldRollout Try.f37 = true := by kernel_rfl
theorem mslaws_heldDialedS : mFn Try.prog fid slaws_heldDialedS_t slaws_heldDialedS Try.f38 = true := by kernel_rfl
theorem mslaws_heldLoggedS : mFn Try.prog fid slaws_heldLoggedS_t slaws_heldLoggedS Try.f39 = true := by kernel_rfl
theorem mslaws_heldWorld : mFn Try.prog fid slaws_heldWorld_t slaws_heldWorld Try.f10 = true := by kernel_rfl
theorem mslaws_FnExactStepRevive : mFn Try.prog fid slaws_FnExactStepRevive_t slaws_FnExactStepRevive Try.f3 = true := by kernel_rfl
theorem dcpEndpointS_65 : cpEndpointS (DD 65) := by unfold cpEndpointS; intros; refine lk (g := 65) rfl Try.func43 msspec_l32End ?_; apply l32End_b _  <;> assumption
theorem dcpRolloutS_66 : cpRolloutS (DD 66) := by unfold cpRolloutS; intros; refine lk (g := 66) rfl Try.func44 msspec_l26Copy ?_; apply l26Copy_b _  <;> assumption
theorem dcpDialedS_67 : cpDialedS (DD 67) := by unfold cpDialedS; intros; refine lk (g := 67) rfl Try.func45 msspec_l32Dialed ?_; apply l32Dialed_b _  <;> assumption
theorem dcpWorldS_22 : cpWorldS (DD 22) := by unfold cpWorldS; intros; refine lk (g := 22) rfl Try.func16 msspec_l32Copy ?_; apply l32Copy_b _ dcpEndpointS_65 dcpRolloutS_66 dcpDialedS_67 <;> assumption
theorem dInS_71 : InS (DD 71) := by unfold InS; intros; refine lk (g := 71) rfl Try.func47 msspec_l1In ?_; apply l1In_b _  <;> assumption
theorem dAreVersionsS_208 : AreVersionsS (DD 208) := by unfold AreVersionsS; intros; refine lk (g := 208) rfl Try.func46 msspec_AreVersions ?_; apply sAreVersions_b _ dInS_71 <;> assumption
theorem dHasS_166 : HasS (DD 166) := by unfold HasS; intros; refine lk (g := 166) rfl Try.func48 msspec_l9Has ?_; apply l9Has_b _  <;> assumption
theorem dl4PutS_159 : l4PutS (DD 159) := by unfold l4PutS; intros; refine lk (g := 159) rfl Try.func49 msspec_l4Put ?_; apply l4Put_b _  <;> assumption
theorem dAddVersionS_151 : AddVersionS (DD 151) := by unfold AddVersionS; intros; refine lk (g := 151) rfl Try.func17 msspec_AddVersion ?_; apply sAddVersion_b _ dAreVersionsS_208 dInS_71 dHasS_166 dl4PutS_159 <;> assumption
theorem dStepReviveS_77 : StepReviveS (DD 77) := by unfold StepReviveS; intros; refine lk (g := 77) rfl Try.func5 msspec_StepRevive ?_; apply sStepRevive_b _ dcpWorldS_22 dAddVersionS_151 <;> assumption
theorem dcpPathS_172 : cpPathS (DD 172) := by unfold cpPathS; intros; refine lk (g := 172) rfl Try.func69 msimpl_copyPath ?_; apply copyPath_b _  <;> assumption
theorem dcpEndpointS_102 : cpEndpointS (DD 102) := by unfold cpEndpointS; intros; refine lk (g := 102) rfl Try.func54 msimpl_copyEndpoint ?_; apply copyEndpoint_b _ dcpPathS_172 <;> assumption
theorem dcpRolloutS_101 : cpRolloutS (DD 101) := by unfold cpRolloutS; intros; refine lk (g := 101) rfl Try.func53 msimpl_copyRollout ?_; apply copyRollout_b _  <;> assumption
theorem dcpDialedS_103 : cpDialedS (DD 103) := by unfold cpDialedS; intros; refine lk (g := 103) rfl Try.func55 msimpl_copyDialed ?_; apply copyDialed_b _  <;> assumption
theorem dcpWorldS_38 : cpWorldS (DD 38) := by unfold cpWorldS; intros; refine lk (g := 38) rfl Try.func23 msimpl_copyWorld ?_; apply copyWorld_b _ dcpEndpointS_102 dcpRolloutS_101 dcpDialedS_103 <;> assumption
theorem dInS_114 : InS (DD 114) := by unfold InS; intros; refine lk (g := 114) rfl Try.func57 msimpl_InRange ?_; apply InRange_b _  <;> assumption
theorem dAreVersionsS_232 : AreVersionsS (DD 232) := by unfold AreVersionsS; intros; refine lk (g := 232) rfl Try.func56 msimpl_AreVersions ?_; apply iAreVersions_b _ dInS_114 <;> assumption
theorem dIndexS_389 : IndexS (DD 389) := by unfold IndexS; intros; refine lk (g := 389) rfl Try.func70 msslices_Index___int_int_ ?_; apply Index_b _  <;> assumption
theorem dHasS_188 : HasS (DD 188) := by unfold HasS; intros; refine lk (g := 188) rfl Try.func58 msslices_Contains___int_int_ ?_; apply Contains_b _ dIndexS_389 <;> assumption
theorem dSortS_197 : SortS (DD 197) := sort_prom (k := 59) rfl (fun p c w => Try.slices_Sort_int_none p c w) (fun b o c zs w h1 h2 h3 => Try.slices_Sort_int b o c zs w h1 h2 h3)
theorem dAddVersionS_182 : AddVersionS (DD 182) := by unfold AddVersionS; intros; refine lk (g := 182) rfl Try.func24 msimplV_AddVersion ?_; apply iAddVersion_b _ dAreVersionsS_232 dInS_114 dHasS_188 dSortS_197 <;> assumption
theorem dStepReviveS_110 : StepReviveS (DD 110) := by unfold StepReviveS; intros; refine lk (g := 110) rfl Try.func7 msimpl_StepRevive ?_; apply iStepRevive_b _ dcpWorldS_38 dAddVersionS_182 <;> assumption
theorem dszIntSS_16 : szIntSS (DD 16) := by unfold szIntSS; intros; refine lk (g := 16) rfl Try.func11 mslaws_szIntS ?_; apply szIntS_b _  <;> assumption
theorem dszBoxS_206 : szBoxS (DD 206) := by unfold szBoxS; intros; refine lk (g := 206) rfl Try.func75 mslaws_szBox ?_; apply szBox_b _ dszIntSS_16 <;> assumption
theorem dszBoxSS_139 : szBoxSS (DD 139) := by unfold szBoxSS; intros; refine lk (g := 139) rfl Try.func65 mslaws_szBoxS ?_; apply szBoxS_b _ dszBoxS_206 <;> assumption
theorem dszEndpointS_62 : szEndpointS (DD 62) := by unfold szEndpointS; intros; refine lk (g := 62) rfl Try.func40 mslaws_szEndpoint ?_; apply szEndpoint_b _ dszIntSS_16 dszBoxSS_139 <;> assumption
theorem dszEndpointSS_17 : szEndpointSS (DD 17) := by unfold szEndpointSS; intros; refine lk (g := 17) rfl Try.func12 mslaws_szEndpointS ?_; apply szEndpointS_b _ dszEndpointS_62 <;> assumption
theorem dszRolloutS_18 : szRolloutS (DD 18) := by unfold szRolloutS; intros; refine lk (g := 18) rfl Try.func13 mslaws_szRollout ?_; apply szRollout_b _ dszIntSS_16 <;> assumption
theorem dszDealS_140 : szDealS (DD 140) := by unfold szDealS; intros; refine lk (g := 140) rfl Try.func66 mslaws_szDeal ?_; apply szDeal_b _ dszIntSS_16 <;> assumption
theorem dszDialedS_63 : szDialedS (DD 63) := by unfold szDialedS; intros; refine lk (g := 63) rfl Try.func41 mslaws_szDialed ?_; apply szDialed_b _ dszDealS_140 dszIntSS_16 <;> assumption
theorem dszDialedSS_19 : szDialedSS (DD 19) := by unfold szDialedSS; intros; refine lk (g := 19) rfl Try.func14 mslaws_szDialedS ?_; apply szDialedS_b _ dszDialedS_63 <;> assumption
theorem dszLoggedS_64 : szLoggedS (DD 64) := by unfold szLoggedS; intros; refine lk (g := 64) rfl Try.func42 mslaws_szLogged ?_; apply szLogged_b _ dszDialedS_63 <;> assumption
theorem dszLoggedSS_20 : szLoggedSS (DD 20) := by unfold szLoggedSS; intros; refine lk (g := 20) rfl Try.func15 mslaws_szLoggedS ?_; apply szLoggedS_b _ dszLoggedS_64 <;> assumption
theorem dszWorldS_7 : szWorldS (DD 7) := by unfold szWorldS; intros; refine lk (g := 7) rfl Try.func4 mslaws_szWorld ?_; apply szWorld_b _ dszIntSS_16 dszEndpointSS_17 dszRolloutS_18 dszDialedSS_19 dszLoggedSS_20 <;> assumption
theorem dtoIntSS_31 : toIntSS (DD 31) := by unfold toIntSS; intros; refine lk (g := 31) rfl Try.func18 mslaws_toIntS ?_; apply toIntS_b _  <;> assumption
theorem dtoBoxS_226 : toBoxS (DD 226) := by unfold toBoxS; intros; refine lk (g := 226) rfl Try.func76 mslaws_toBox ?_; apply toBox_b _ dtoIntSS_31 <;> assumption
theorem dtoBoxSS_170 : toBoxSS (DD 170) := by unfold toBoxSS; intros; refine lk (g := 170) rfl Try.func67 mslaws_toBoxS ?_; apply toBoxS_b _ dtoBoxS_226 <;> assumption
theorem dtoEndpointS_98 : toEndpointS (DD 98) := by unfold toEndpointS; intros; refine lk (g := 98) rfl Try.func50 mslaws_toEndpoint ?_; apply toEndpoint_b _ dtoIntSS_31 dtoBoxSS_170 <;> assumption
theorem dtoEndpointSS_32 : toEndpointSS (DD 32) := by unfold toEndpointSS; intros; refine lk (g := 32) rfl Try.func19 mslaws_toEndpointS ?_; apply toEndpointS_b _ dtoEndpointS_98 <;> assumption
theorem dtoRolloutS_33 : toRolloutS (DD 33) := by unfold toRolloutS; intros; refine lk (g := 33) rfl Try.func20 mslaws_toRollout ?_; apply toRollout_b _ dtoIntSS_31 <;> assumption
theorem dtoDealS_171 : toDealS (DD 171) := by unfold toDealS; intros; refine lk (g := 171) rfl Try.func68 mslaws_toDeal ?_; apply toDeal_b _ dtoIntSS_31 <;> assumption
theorem dtoDialedS_99 : toDialedS (DD 99) := by unfold toDialedS; intros; refine lk (g := 99) rfl Try.func51 mslaws_toDialed ?_; apply toDialed_b _ dtoDealS_171 dtoIntSS_31 <;> assumption
theorem dtoDialedSS_34 : toDialedSS (DD 34) := by unfold toDialedSS; intros; refine lk (g := 34) rfl Try.func21 mslaws_toDialedS ?_; apply toDialedS_b _ dtoDialedS_99 <;> assumption
theorem dtoLoggedS_100 : toLoggedS (DD 100) := by unfold toLoggedS; intros; refine lk (g := 100) rfl Try.func52 mslaws_toLogged ?_; apply toLogged_b _ dtoDialedS_99 <;> assumption
theorem dtoLoggedSS_35 : toLoggedSS (DD 35) := by unfold toLoggedSS; intros; refine lk (g := 35) rfl Try.func22 mslaws_toLoggedS ?_; apply toLoggedS_b _ dtoLoggedS_100 <;> assumption
theorem dtoWorldS_8 : toWorldS (DD 8) := by unfold toWorldS; intros; refine lk (g := 8) rfl Try.func6 mslaws_toWorld ?_; apply toWorld_b _ dtoIntSS_31 dtoEndpointSS_32 dtoRolloutS_33 dtoDialedSS_34 dtoLoggedSS_35 <;> assumption
theorem deqIntSS_47 : eqIntSS (DD 47) := by unfold eqIntSS; intros; refine lk (g := 47) rfl Try.func25 mslaws_eqIntS ?_; apply eqIntS_b _  <;> assumption
theorem deqBoxS_249 : eqBoxS (DD 249) := by unfold eqBoxS; intros; refine lk (g := 249) rfl Try.func88 mslaws_eqBox ?_; apply eqBox_b _ deqIntSS_47 <;> assumption
theorem deqBoxSS_204 : eqBoxSS (DD 204) := by unfold eqBoxSS; intros; refine lk (g := 204) rfl Try.func73 mslaws_eqBoxS ?_; apply eqBoxS_b _ deqBoxS_249 <;> assumption
theorem deqEndpointS_134 : eqEndpointS (DD 134) := by unfold eqEndpointS; intros; refine lk (g := 134) rfl Try.func60 mslaws_eqEndpoint ?_; apply eqEndpoint_b _ deqIntSS_47 deqBoxSS_204 <;> assumption
theorem deqEndpointSS_48 : eqEndpointSS (DD 48) := by unfold eqEndpointSS; intros; refine lk (g := 48) rfl Try.func26 mslaws_eqEndpointS ?_; apply eqEndpointS_b _ deqEndpointS_134 <;> assumption
theorem deqRolloutS_49 : eqRolloutS (DD 49) := by unfold eqRolloutS; intros; refine lk (g := 49) rfl Try.func27 mslaws_eqRollout ?_; apply eqRollout_b _ deqIntSS_47 <;> assumption
theorem deqDealS_205 : eqDealS (DD 205) := by unfold eqDealS; intros; refine lk (g := 205) rfl Try.func74 mslaws_eqDeal ?_; apply eqDeal_b _ deqIntSS_47 <;> assumption
theorem deqDialedS_135 : eqDialedS (DD 135) := by unfold eqDialedS; intros; refine lk (g := 135) rfl Try.func61 mslaws_eqDialed ?_; apply eqDialed_b _ deqDealS_205 deqIntSS_47 <;> assumption
theorem deqDialedSS_50 : eqDialedSS (DD 50) := by unfold eqDialedSS; intros; refine lk (g := 50) rfl Try.func28 mslaws_eqDialedS ?_; apply eqDialedS_b _ deqDialedS_135 <;> assumption
theorem deqLoggedS_136 : eqLoggedS (DD 136) := by unfold eqLoggedS; intros; refine lk (g := 136) rfl Try.func62 mslaws_eqLogged ?_; apply eqLogged_b _ deqDialedS_135 <;> assumption
theorem deqLoggedSS_51 : eqLoggedSS (DD 51) := by unfold eqLoggedSS; intros; refine lk (g := 51) rfl Try.func29 mslaws_eqLoggedS ?_; apply eqLoggedS_b _ deqLoggedS_136 <;> assumption
theorem deqWorldS_11 : eqWorldS (DD 11) := by unfold eqWorldS; intros; refine lk (g := 11) rfl Try.func8 mslaws_eqWorld ?_; apply eqWorld_b _ deqIntSS_47 deqEndpointSS_48 deqRolloutS_49 deqDialedSS_50 deqLoggedSS_51 <;> assumption
theorem dmarkIntSS_52 : markIntSS (DD 52) := by unfold markIntSS; intros; refine lk (g := 52) rfl Try.func30 mslaws_markIntS ?_; apply markIntS_b _  <;> assumption
theorem dmarkBoxSS_137 : markBoxSS (DD 137) := by unfold markBoxSS; intros; refine lk (g := 137) rfl Try.func63 mslaws_markBoxS ?_; apply markBoxS_b _ dmarkIntSS_52 <;> assumption
theorem dmarkEndpointSS_53 : markEndpointSS (DD 53) := by unfold markEndpointSS; intros; refine lk (g := 53) rfl Try.func31 mslaws_markEndpointS ?_; apply markEndpointS_b _ dmarkIntSS_52 dmarkBoxSS_137 <;> assumption
theorem dmarkRolloutS_54 : markRolloutS (DD 54) := by unfold markRolloutS; intros; refine lk (g := 54) rfl Try.func32 mslaws_markRollout ?_; apply markRollout_b _ dmarkIntSS_52 <;> assumption
theorem dmarkDialedSS_55 : markDialedSS (DD 55) := by unfold markDialedSS; intros; refine lk (g := 55) rfl Try.func33 mslaws_markDialedS ?_; apply markDialedS_b _ dmarkIntSS_52 <;> assumption
theorem dmarkLoggedSS_56 : markLoggedSS (DD 56) := by unfold markLoggedSS; intros; refine lk (g := 56) rfl Try.func34 mslaws_markLoggedS ?_; apply markLoggedS_b _ dmarkIntSS_52 <;> assumption
theorem dmarkWorldS_12 : markWorldS (DD 12) := by unfold markWorldS; intros; refine lk (g := 12) rfl Try.func9 mslaws_markWorld ?_; apply markWorld_b _ dmarkIntSS_52 dmarkEndpointSS_53 dmarkRolloutS_54 dmarkDialedSS_55 dmarkLoggedSS_56 <;> assumption
theorem dheldIntSS_57 : heldIntSS (DD 57) := by unfold heldIntSS; intros; refine lk (g := 57) rfl Try.func35 mslaws_heldIntS ?_; apply heldIntS_b _  <;> assumption
theorem dheldBoxSS_138 : heldBoxSS (DD 138) := by unfold heldBoxSS; intros; refine lk (g := 138) rfl Try.func64 mslaws_heldBoxS ?_; apply heldBoxS_b _ dheldIntSS_57 <;> assumption
theorem dheldEndpointSS_58 : heldEndpointSS (DD 58) := by unfold heldEndpointSS; intros; refine lk (g := 58) rfl Try.func36 mslaws_heldEndpointS ?_; apply heldEndpointS_b _ dheldIntSS_57 dheldBoxSS_138 <;> assumption
theorem dheldRolloutS_59 : heldRolloutS (DD 59) := by unfold heldRolloutS; intros; refine lk (g := 59) rfl Try.func37 mslaws_heldRollout ?_; apply heldRollout_b _ dheldIntSS_57 <;> assumption
theorem dheldDialedSS_60 : heldDialedSS (DD 60) := by unfold heldDialedSS; intros; refine lk (g := 60) rfl Try.func38 mslaws_heldDialedS ?_; apply heldDialedS_b _ dheldIntSS_57 <;> assumption
theorem dheldLoggedSS_61 : heldLoggedSS (DD 61) := by unfold heldLoggedSS; intros; refine lk (g := 61) rfl Try.func39 mslaws_heldLoggedS ?_; apply heldLoggedS_b _ dheldIntSS_57 <;> assumption
theorem dheldWorldS_13 : heldWorldS (DD 13) := by unfold heldWorldS; intros; refine lk (g := 13) rfl Try.func10 mslaws_heldWorld ?_; apply heldWorld_b _ dheldIntSS_57 dheldEndpointSS_58 dheldRolloutS_59 dheldDialedSS_60 dheldLoggedSS_61 <;> assumption
theorem dFnExactStepReviveS_458 : FnExactStepReviveS (DD 458) := by unfold FnExactStepReviveS; intros; refine lk (g := 458) rfl Try.func3 mslaws_FnExactStepRevive ?_; apply FnExactStepRevive_b _ dStepReviveS_77 dStepReviveS_110 dszWorldS_7 dtoWorldS_8 deqWorldS_11 dmarkWorldS_12 dheldWorldS_13 <;> assumption
theorem den (av : List V) (h : ArgsV [tyWorld, .int .i64] av) : DD 458 av [] (B true) [] := by
  obtain ⟨v0, r0, h0, hr0, rfl⟩ := h
  obtain ⟨x0, rfl, l0, w0⟩ := argWorld h0
  obtain ⟨v1, r1, h1, hr1, rfl⟩ := hr0
  obtain ⟨x1, rfl, w1⟩ := argI h1
  have z : r1 = [] := hr1
  subst z
  apply dFnExactStepReviveS_458 <;> assumption
end Go.Eng.T

