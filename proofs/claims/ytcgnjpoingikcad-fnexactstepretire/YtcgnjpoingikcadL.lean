/- Own work: part 46 of the proof of FnExactStepRetire. -/
import Derived.Test.YtcgnjpoingikcadP45
import Derived.Test.YtcgnjpoingikcadProg
import Derived.KernelRfl
namespace Go.Eng.T
open Go.Proofs
def fidL : List (Option Nat) := [none, none, none, none, none, none, none, some 22, some 24, none, none, some 13, some 20, some 21, none, none, some 29, some 6, some 7, some 46, some 47, none, some 30, none, none, none, none, none, none, none, none, some 9, some 10, some 11, some 50, some 51, none, none, some 33, none, none, none, none, none, none, none, none, some 14, some 15, some 16, some 35, some 36, some 17, some 18, some 19, some 39, some 40, some 41, some 42, some 43, some 44, some 45, some 28, some 87, some 88, some 59, some 60, some 61, none, none, none, some 69, none, none, none, none, some 26, none, none, none, none, none, none, none, none, none, none, none, none, none, none, none, none, none, none, some 55, some 114, none, some 32, some 90, some 91, some 71, some 72, some 73, none, none, none, none, none, some 27, none, none, none, none, some 82, none, none, none, none, none, none, none, none, some 57, some 116, none, none, none, none, none, none, none, none, none, some 37, some 83, some 84, some 38, some 86, some 58, some 112, none, none, none, none, none, none, none, none, none, some 54, none, none, none, none, none, none, none, none, none, none, none, none, none, none, none, some 67, some 48, some 49, none, some 70, some 113, some 100, none, none, none, none, none, none, none, none, some 56, none, none, none, none, none, none, some 81, some 52, some 53, none, none, none, none, none, none, none, none, none, none, none, none, none, some 85, some 110, some 96, none, some 63, none, none, none, none, none, none, none, some 94, none, none, none, none, none, none, none, some 89, none, some 99, none, none, none, none, some 95, some 92, none, none, none, none, none, none, none, none, none, some 93, none, none, none, none, none, none, some 111, none, none, none, none, none, some 115, none, none, none, none, none, none, none, none, none, some 117, none, none, none, none, none, none, none, none, none, none, none, none, none, none, none, none, none, none, none, none, none, none, none, none, none, none, none, none, none, none, none, none, none, none, none, none, none, none, none, none, none, none, none, none, none, none, none, none, none, none, none, none, none, none, none, none, none, none, none, none, none, none, none, none, none, none, none, none, none, none, none, none, none, none, none, none, none, none, none, none, none, none, none, none, none, none, none, none, none, none, none, none, none, none, none, none, none, none, none, none, none, none, none, none, none, none, none, none, none, none, none, none, none, none, none, none, none, none, none, none, none, none, none, some 109, none, none, none, none, none, none, none, none, none, none, none, none, none, none, none, none, none, none, none, none, none, none, none, none, none, none, none, none, none, none, none, none, none, none, none, none, none, none, none, none, none, none, none, none, none, none, none, none, none, none, none, none, none, none, some 5, none, none, none, none, none, none, none, none, none]
def fid : Nat → Option FuncId := fun g => fidL.getD g none
theorem hmix : Try.prog.follows .mixedOrders = true := by kernel_rfl
theorem hFl : fidL.all (fun o => match o with | some f => okF Try.prog f | none => true) = true := by kernel_rfl
theorem hF : ∀ g f, fid g = some f → okF Try.prog f = true := by
  intro g f h
  have := List.all_eq_true.1 hFl (some f) (by
    unfold fid at h
    rw [List.getD_eq_getElem?_getD] at h
    cases hg : fidL[g]? with
    | none => simp [hg] at h
    | some o => simp [hg] at h; subst h; exact List.mem_of_getElem? hg)
  exact this
abbrev G0 : Nat → Prop := fun _ => False
abbrev DD : Dn := Den Try.prog fid G0
theorem lk {g : Nat} {f : FuncId} {fn : Func} {st : List Tmp} {sf : SFn} (hg : fid g = some f) (hfn : Try.prog.funcs[f]? = some fn) (hm : mFn Try.prog fid st sf fn = true) {a : List V} {gi : List O} {r : V} {o : List O}
    (h : Body DD sf a gi r o) : DD g a gi r o :=
  fn_sound hmix (fun _ _ _ _ _ h => h) hF (fun id hid => by rw [hg] at hid; cases hid; exact hfn) hm h
theorem msspec_l32End : mFn Try.prog fid sspec_l32End_t sspec_l32End Try.f59 = true := by kernel_rfl
theorem msspec_l26Copy : mFn Try.prog fid sspec_l26Copy_t sspec_l26Copy Try.f60 = true := by kernel_rfl
theorem msspec_l32Dialed : mFn Try.prog fid sspec_l32Dialed_t sspec_l32Dialed Try.f61 = true := by kernel_rfl
theorem msspec_l32Copy : mFn Try.prog fid sspec_l32Copy_t sspec_l32Copy Try.f30 = true := by kernel_rfl
theorem msspec_ListsOf : mFn Try.prog fid sspec_ListsOf_t sspec_ListsOf Try.f55 = true := by kernel_rfl
theorem msspec_l1In : mFn Try.prog fid sspec_l1In_t sspec_l1In Try.f69 = true := by kernel_rfl
theorem msspec_AreVersions : mFn Try.prog fid sspec_AreVersions_t sspec_AreVersions Try.f63 = true := by kernel_rfl
theorem msspec_l9Has : mFn Try.prog fid sspec_l9Has_t sspec_l9Has Try.f67 = true := by kernel_rfl
theorem msspec_CommonOf : mFn Try.prog fid sspec_CommonOf_t sspec_CommonOf Try.f89 = true := by kernel_rfl
theorem msspec_BestCommon : mFn Try.prog fid sspec_BestCommon_t sspec_BestCommon Try.f49 = true := by kernel_rfl
theorem msspec_l12Without : mFn Try.prog fid sspec_l12Without_t sspec_l12Without Try.f48 = true := by kernel_rfl
theorem msspec_Stranded : mFn Try.prog fid sspec_Stranded_t sspec_Stranded Try.f114 = true := by kernel_rfl
theorem msspec_UseOf : mFn Try.prog fid sspec_UseOf_t sspec_UseOf Try.f115 = true := by kernel_rfl
theorem msspec_MayRetire : mFn Try.prog fid sspec_MayRetire_t sspec_MayRetire Try.f94 = true := by kernel_rfl
theorem msspec_RetireVersion : mFn Try.prog fid sspec_RetireVersion_t sspec_RetireVersion Try.f54 = true := by kernel_rfl
theorem msspec_StepRetire : mFn Try.prog fid sspec_StepRetire_t sspec_StepRetire Try.f26 = true := by kernel_rfl
theorem msimpl_copyPath : mFn Try.prog fid simpl_copyPath_t simpl_copyPath Try.f100 = true := by kernel_rfl
theorem msimpl_copyEndpoint : mFn Try.prog fid simpl_copyEndpoint_t simpl_copyEndpoint Try.f72 = true := by kernel_rfl
theorem msimpl_copyRollout : mFn Try.prog fid simpl_copyRollout_t simpl_copyRollout Try.f71 = true := by kernel_rfl
theorem msimpl_copyDialed : mFn Try.prog fid simpl_copyDialed_t simpl_copyDialed Try.f73 = true := by kernel_rfl
theorem msimpl_copyWorld : mFn Try.prog fid simpl_copyWorld_t simpl_copyWorld Try.f33 = true := by kernel_rfl
theorem msimpl_ListsOf : mFn Try.prog fid simpl_ListsOf_t simpl_ListsOf Try.f57 = true := by kernel_rfl
theorem msimpl_InRange : mFn Try.prog fid simpl_InRange_t simpl_InRange Try.f82 = true := by kernel_rfl
theorem msimpl_AreVersions : mFn Try.prog fid simpl_AreVersions_t simpl_AreVersions Try.f92 = true := by kernel_rfl
theorem msslices_Index___int_int_ : mFn Try.prog fid sslices_Index___int_int__t sslices_Index___int_int_ Try.f109 = true := by kernel_rfl
theorem msslices_Contains___int_int_ : mFn Try.prog fid sslices_Contains___int_int__t sslices_Contains___int_int_ Try.f81 = true := by kernel_rfl
theorem msimpl_CommonOf : mFn Try.prog fid simpl_CommonOf_t simpl_CommonOf Try.f93 = true := by kernel_rfl
theorem msimpl_BestCommon : mFn Try.prog fid simpl_BestCommon_t simpl_BestCommon Try.f53 = true := by kernel_rfl
theorem msimpl_without : mFn Try.prog fid simpl_without_t simpl_without Try.f52 = true := by kernel_rfl
theorem msimpl_Stranded : mFn Try.prog fid simpl_Stranded_t simpl_Stranded Try.f116 = true := by kernel_rfl
theorem msimpl_UseOf : mFn Try.prog fid simpl_UseOf_t simpl_UseOf Try.f117 = true := by kernel_rfl
theorem msimpl_MayRetire : mFn Try.prog fid simpl_MayRetire_t simpl_MayRetire Try.f95 = true := by kernel_rfl
theorem msimpl_RetireVersion : mFn Try.prog fid simpl_RetireVersion_t simpl_RetireVersion Try.f56 = true := by kernel_rfl
theorem msimpl_StepRetire : mFn Try.prog fid simpl_StepRetire_t simpl_StepRetire Try.f27 = true := by kernel_rfl
theorem mslaws_szIntS : mFn Try.prog fid slaws_szIntS_t slaws_szIntS Try.f29 = true := by kernel_rfl
theorem mslaws_szBox : mFn Try.prog fid slaws_szBox_t slaws_szBox Try.f96 = true := by kernel_rfl
theorem mslaws_szBoxS : mFn Try.prog fid slaws_szBoxS_t slaws_szBoxS Try.f58 = true := by kernel_rfl
theorem mslaws_szEndpoint : mFn Try.prog fid slaws_szEndpoint_t slaws_szEndpoint Try.f28 = true := by kernel_rfl
theorem mslaws_szEndpointS : mFn Try.prog fid slaws_szEndpointS_t slaws_szEndpointS Try.f6 = true := by kernel_rfl
theorem mslaws_szRollout : mFn Try.prog fid slaws_szRollout_t slaws_szRollout Try.f7 = true := by kernel_rfl
theorem mslaws_szDeal : mFn Try.prog fid slaws_szDeal_t slaws_szDeal Try.f112 = true := by kernel_rfl
theorem mslaws_szDialed : mFn Try.prog fid slaws_szDialed_t slaws_szDialed Try.f87 = true := by kernel_rfl
theorem mslaws_szDialedS : mFn Try.prog fid slaws_szDialedS_t slaws_szDialedS Try.f46 = true := by kernel_rfl
theorem mslaws_szLogged : mFn Try.prog fid slaws_szLogged_t slaws_szLogged Try.f88 = true := by kernel_rfl
theorem mslaws_szLoggedS : mFn Try.prog fid slaws_szLoggedS_t slaws_szLoggedS Try.f47 = true := by kernel_rfl
theorem mslaws_szWorld : mFn Try.prog fid slaws_szWorld_t slaws_szWorld Try.f22 = true := by kernel_rfl
theorem mslaws_toIntS : mFn Try.prog fid slaws_toIntS_t slaws_toIntS Try.f9 = true := by kernel_rfl
theorem mslaws_toBox : mFn Try.prog fid slaws_toBox_t slaws_toBox Try.f99 = true := by kernel_rfl
theorem mslaws_toBoxS : mFn Try.prog fid slaws_toBoxS_t slaws_toBoxS Try.f70 = true := by kernel_rfl
theorem mslaws_toEndpoint : mFn Try.prog fid slaws_toEndpoint_t slaws_toEndpoint Try.f32 = true := by kernel_rfl
theorem mslaws_toEndpointS : mFn Try.prog fid slaws_toEndpointS_t slaws_toEndpointS Try.f10 = true := by kernel_rfl
theorem mslaws_toRollout : mFn Try.prog fid slaws_toRollout_t slaws_toRollout Try.f11 = true := by kernel_rfl
theorem mslaws_toDeal : mFn Try.prog fid slaws_toDeal_t slaws_toDeal Try.f113 = true := by kernel_rfl
theorem mslaws_toDialed : mFn Try.prog fid slaws_toDialed_t slaws_toDialed Try.f90 = true := by kernel_rfl
theorem mslaws_toDialedS : mFn Try.prog fid slaws_toDialedS_t slaws_toDialedS Try.f50 = true := by kernel_rfl
theorem mslaws_toLogged : mFn Try.prog fid slaws_toLogged_t slaws_toLogged Try.f91 = true := by kernel_rfl
theorem mslaws_toLoggedS : mFn Try.prog fid slaws_toLoggedS_t slaws_toLoggedS Try.f51 = true := by kernel_rfl
theorem mslaws_toWorld : mFn Try.prog fid slaws_toWorld_t slaws_toWorld Try.f24 = true := by kernel_rfl
theorem mslaws_eqIntS : mFn Try.prog fid slaws_eqIntS_t slaws_eqIntS Try.f14 = true := by kernel_rfl
theorem mslaws_eqBox : mFn Try.prog fid slaws_eqBox_t slaws_eqBox Try.f111 = true := by kernel_rfl
theorem mslaws_eqBoxS : mFn Try.prog fid slaws_eqBoxS_t slaws_eqBoxS Try.f85 = true := by kernel_rfl
theorem mslaws_eqEndpoint : mFn Try.prog fid slaws_eqEndpoint_t slaws_eqEndpoint Try.f37 = true := by kernel_rfl
theorem mslaws_eqEndpointS : mFn Try.prog fid slaws_eqEndpointS_t slaws_eqEndpointS Try.f15 = true := by kernel_rfl
theorem mslaws_eqRollout : mFn Try.prog fid slaws_eqRollout_t slaws_eqRollout Try.f16 = true := by kernel_rfl
theorem mslaws_eqDeal : mFn Try.prog fid slaws_eqDeal_t slaws_eqDeal Try.f110 = true := by kernel_rfl
theorem mslaws_eqDialed : mFn Try.prog fid slaws_eqDialed_t slaws_eqDialed Try.f83 = true := by kernel_rfl
theorem mslaws_eqDialedS : mFn Try.prog fid slaws_eqDialedS_t slaws_eqDialedS Try.f35 = true := by kernel_rfl
theorem mslaws_eqLogged : mFn Try.prog fid slaws_eqLogged_t slaws_eqLogged Try.f84 = true := by kernel_rfl
theorem mslaws_eqLoggedS : mFn Try.prog fid slaws_eqLoggedS_t slaws_eqLoggedS Try.f36 = true := by kernel_rfl
theorem mslaws_eqWorld : mFn Try.prog fid slaws_eqWorld_t slaws_eqWorld Try.f13 = true := by kernel_rfl
theorem mslaws_markIntS : mFn Try.prog fid slaws_markIntS_t slaws_markIntS Try.f17 = true := by kernel_rfl
theorem mslaws_markBoxS : mFn Try.prog fid slaws_markBoxS_t slaws_markBoxS Try.f38 = true := by kernel_rfl
theorem mslaws_markEndpointS : mFn Try.prog fid slaws_markEndpointS_t slaws_markEndpointS Try.f18 = true := by kernel_rfl
theorem mslaws_markRollout : mFn Try.prog fid slaws_markRollout_t slaws_markRollout Try.f19 = true := by kernel_rfl
theorem mslaws_markDialedS : mFn Try.prog fid slaws_markDialedS_t slaws_markDialedS Try.f39 = true := by kernel_rfl
theorem mslaws_markLoggedS : mFn Try.prog fid slaws_markLoggedS_t slaws_markLoggedS Try.f40 = true := by kernel_rfl
theorem mslaws_markWorld : mFn Try.prog fid slaws_markWorld_t slaws_markWorld Try.f20 = true := by kernel_rfl
theorem mslaws_heldIntS : mFn Try.prog fid slaws_heldIntS_t slaws_heldIntS Try.f41 = true := by kernel_rfl
theorem mslaws_heldBoxS : mFn Try.prog fid slaws_heldBoxS_t slaws_heldBoxS Try.f86 = true := by kernel_rfl
theorem mslaws_heldEndpointS : mFn Try.prog fid slaws_heldEndpointS_t slaws_heldEndpointS Try.f42 = true := by kernel_rfl
theorem mslaws_heldRollout : mFn Try.prog fid slaws_heldRollout_t slaws_heldRollout Try.f43 = true := by kernel_rfl
theorem mslaws_heldDialedS : mFn Try.prog fid slaws_heldDialedS_t slaws_heldDialedS Try.f44 = true := by kernel_rfl
theorem mslaws_heldLoggedS : mFn Try.prog fid slaws_heldLoggedS_t slaws_heldLoggedS Try.f45 = true := by kernel_rfl
theorem mslaws_heldWorld : mFn Try.prog fid slaws_heldWorld_t slaws_heldWorld Try.f21 = true := by kernel_rfl
theorem mslaws_FnExactStepRetire : mFn Try.prog fid slaws_FnExactStepRetire_t slaws_FnExactStepRetire Try.f5 = true := by kernel_rfl
theorem dcpEndpointS_65 : cpEndpointS (DD 65) := by unfold cpEndpointS; intros; refine lk (g := 65) rfl Try.func59 msspec_l32End ?_; apply l32End_b _  <;> assumption
theorem dcpRolloutS_66 : cpRolloutS (DD 66) := by unfold cpRolloutS; intros; refine lk (g := 66) rfl Try.func60 msspec_l26Copy ?_; apply l26Copy_b _  <;> assumption
theorem dcpDialedS_67 : cpDialedS (DD 67) := by unfold cpDialedS; intros; refine lk (g := 67) rfl Try.func61 msspec_l32Dialed ?_; apply l32Dialed_b _  <;> assumption
theorem dcpWorldS_22 : cpWorldS (DD 22) := by unfold cpWorldS; intros; refine lk (g := 22) rfl Try.func30 msspec_l32Copy ?_; apply l32Copy_b _ dcpEndpointS_65 dcpRolloutS_66 dcpDialedS_67 <;> assumption
theorem dListsOfS_95 : ListsOfS (DD 95) := by unfold ListsOfS; intros; refine lk (g := 95) rfl Try.func55 msspec_ListsOf ?_; apply sListsOf_b _  <;> assumption
theorem dInS_71 : InS (DD 71) := by unfold InS; intros; refine lk (g := 71) rfl Try.func69 msspec_l1In ?_; apply l1In_b _  <;> assumption
theorem dAreVersionsS_208 : AreVersionsS (DD 208) := by unfold AreVersionsS; intros; refine lk (g := 208) rfl Try.func63 msspec_AreVersions ?_; apply sAreVersions_b _ dInS_71 <;> assumption
theorem dHasS_166 : HasS (DD 166) := by unfold HasS; intros; refine lk (g := 166) rfl Try.func67 msspec_l9Has ?_; apply l9Has_b _  <;> assumption
theorem dCommonOfS_224 : CommonOfS (DD 224) := by unfold CommonOfS; intros; refine lk (g := 224) rfl Try.func89 msspec_CommonOf ?_; apply sCommonOf_b _ dHasS_166 <;> assumption
theorem dBestCommonS_168 : BestCommonS (DD 168) := by unfold BestCommonS; intros; refine lk (g := 168) rfl Try.func49 msspec_BestCommon ?_; apply sBestCommon_b _ dCommonOfS_224 dAreVersionsS_208 <;> assumption
theorem dl12WithoutS_167 : l12WithoutS (DD 167) := by unfold l12WithoutS; intros; refine lk (g := 167) rfl Try.func48 msspec_l12Without ?_; apply l12Without_b _  <;> assumption
theorem dStrandedS_96 : StrandedS (DD 96) := by unfold StrandedS; intros; refine lk (g := 96) rfl Try.func114 msspec_Stranded ?_; apply sStranded_b _ dBestCommonS_168 dl12WithoutS_167 <;> assumption
theorem dUseOfS_255 : UseOfS (DD 255) := by unfold UseOfS; intros; refine lk (g := 255) rfl Try.func115 msspec_UseOf ?_; apply sUseOf_b _ dBestCommonS_168 <;> assumption
theorem dMayRetireS_216 : MayRetireS (DD 216) := by unfold MayRetireS; intros; refine lk (g := 216) rfl Try.func94 msspec_MayRetire ?_; apply sMayRetire_b _ dAreVersionsS_208 dHasS_166 dInS_71 dStrandedS_96 dUseOfS_255 <;> assumption
theorem dRetireVersionS_150 : RetireVersionS (DD 150) := by unfold RetireVersionS; intros; refine lk (g := 150) rfl Try.func54 msspec_RetireVersion ?_; apply sRetireVersion_b _ dMayRetireS_216 dl12WithoutS_167 <;> assumption
theorem dStepRetireS_76 : StepRetireS (DD 76) := by unfold StepRetireS; intros; refine lk (g := 76) rfl Try.func26 msspec_StepRetire ?_; apply sStepRetire_b _ dcpWorldS_22 dListsOfS_95 dRetireVersionS_150 <;> assumption
theorem dcpPathS_172 : cpPathS (DD 172) := by unfold cpPathS; intros; refine lk (g := 172) rfl Try.func100 msimpl_copyPath ?_; apply copyPath_b _  <;> assumption
theorem dcpEndpointS_102 : cpEndpointS (DD 102) := by unfold cpEndpointS; intros; refine lk (g := 102) rfl Try.func72 msimpl_copyEndpoint ?_; apply copyEndpoint_b _ dcpPathS_172 <;> assumption
theorem dcpRolloutS_101 : cpRolloutS (DD 101) := by unfold cpRolloutS; intros; refine lk (g := 101) rfl Try.func71 msimpl_copyRollout ?_; apply copyRollout_b _  <;> assumption
theorem dcpDialedS_103 : cpDialedS (DD 103) := by unfold cpDialedS; intros; refine lk (g := 103) rfl Try.func73 msimpl_copyDialed ?_; apply copyDialed_b _  <;> assumption
theorem dcpWorldS_38 : cpWorldS (DD 38) := by unfold cpWorldS; intros; refine lk (g := 38) rfl Try.func33 msimpl_copyWorld ?_; apply copyWorld_b _ dcpEndpointS_102 dcpRolloutS_101 dcpDialedS_103 <;> assumption
theorem dListsOfS_123 : ListsOfS (DD 123) := by unfold ListsOfS; intros; refine lk (g := 123) rfl Try.func57 msimpl_ListsOf ?_; apply iListsOf_b _  <;> assumption
theorem dInS_114 : InS (DD 114) := by unfold InS; intros; refine lk (g := 114) rfl Try.func82 msimpl_InRange ?_; apply InRange_b _  <;> assumption
theorem dAreVersionsS_232 : AreVersionsS (DD 232) := by unfold AreVersionsS; intros; refine lk (g := 232) rfl Try.func92 msimpl_AreVersions ?_; apply iAreVersions_b _ dInS_114 <;> assumption
theorem dIndexS_389 : IndexS (DD 389) := by unfold IndexS; intros; refine lk (g := 389) rfl Try.func109 msslices_Index___int_int_ ?_; apply Index_b _  <;> assumption
theorem dHasS_188 : HasS (DD 188) := by unfold HasS; intros; refine lk (g := 188) rfl Try.func81 msslices_Contains___int_int_ ?_; apply Contains_b _ dIndexS_389 <;> assumption
theorem dCommonOfS_242 : CommonOfS (DD 242) := by unfold CommonOfS; intros; refine lk (g := 242) rfl Try.func93 msimpl_CommonOf ?_; apply iCommonOf_b _ dHasS_188 <;> assumption
theorem dBestCommonS_190 : BestCommonS (DD 190) := by unfold BestCommonS; intros; refine lk (g := 190) rfl Try.func53 msimpl_BestCommon ?_; apply iBestCommon_b _ dCommonOfS_242 dAreVersionsS_232 <;> assumption
theorem dwithoutS_189 : withoutS (DD 189) := by unfold withoutS; intros; refine lk (g := 189) rfl Try.func52 msimpl_without ?_; apply without_b _ dHasS_188 <;> assumption
theorem dStrandedS_124 : StrandedS (DD 124) := by unfold StrandedS; intros; refine lk (g := 124) rfl Try.func116 msimpl_Stranded ?_; apply iStranded_b _ dBestCommonS_190 dwithoutS_189 <;> assumption
theorem dUseOfS_265 : UseOfS (DD 265) := by unfold UseOfS; intros; refine lk (g := 265) rfl Try.func117 msimpl_UseOf ?_; apply iUseOf_b _ dBestCommonS_190 <;> assumption
theorem dMayRetireS_231 : MayRetireS (DD 231) := by unfold MayRetireS; intros; refine lk (g := 231) rfl Try.func95 msimpl_MayRetire ?_; apply iMayRetire_b _ dAreVersionsS_232 dHasS_188 dInS_114 dStrandedS_124 dUseOfS_265 <;> assumption
theorem dRetireVersionS_181 : RetireVersionS (DD 181) := by unfold RetireVersionS; intros; refine lk (g := 181) rfl Try.func56 msimpl_RetireVersion ?_; apply iRetireVersion_b _ dMayRetireS_231 dwithoutS_189 <;> assumption
theorem dStepRetireS_109 : StepRetireS (DD 109) := by unfold StepRetireS; intros; refine lk (g := 109) rfl Try.func27 msimpl_StepRetire ?_; apply iStepRetire_b _ dcpWorldS_38 dListsOfS_123 dRetireVersionS_181 <;> assumption
theorem dszIntSS_16 : szIntSS (DD 16) := by unfold szIntSS; intros; refine lk (g := 16) rfl Try.func29 mslaws_szIntS ?_; apply szIntS_b _  <;> assumption
theorem dszBoxS_206 : szBoxS (DD 206) := by unfold szBoxS; intros; refine lk (g := 206) rfl Try.func96 mslaws_szBox ?_; apply szBox_b _ dszIntSS_16 <;> assumption
theorem dszBoxSS_139 : szBoxSS (DD 139) := by unfold szBoxSS; intros; refine lk (g := 139) rfl Try.func58 mslaws_szBoxS ?_; apply szBoxS_b _ dszBoxS_206 <;> assumption
theorem dszEndpointS_62 : szEndpointS (DD 62) := by unfold szEndpointS; intros; refine lk (g := 62) rfl Try.func28 mslaws_szEndpoint ?_; apply szEndpoint_b _ dszIntSS_16 dszBoxSS_139 <;> assumption
theorem dszEndpointSS_17 : szEndpointSS (DD 17) := by unfold szEndpointSS; intros; refine lk (g := 17) rfl Try.func6 mslaws_szEndpointS ?_; apply szEndpointS_b _ dszEndpointS_62 <;> assumption
theorem dszRolloutS_18 : szRolloutS (DD 18) := by unfold szRolloutS; intros; refine lk (g := 18) rfl Try.func7 mslaws_szRollout ?_; apply szRollout_b _ dszIntSS_16 <;> assumption
theorem dszDealS_140 : szDealS (DD 140) := by unfold szDealS; intros; refine lk (g := 140) rfl Try.func112 mslaws_szDeal ?_; apply szDeal_b _ dszIntSS_16 <;> assumption
theorem dszDialedS_63 : szDialedS (DD 63) := by unfold szDialedS; intros; refine lk (g := 63) rfl Try.func87 mslaws_szDialed ?_; apply szDialed_b _ dszDealS_140 dszIntSS_16 <;> assumption
theorem dszDialedSS_19 : szDialedSS (DD 19) := by unfold szDialedSS; intros; refine lk (g := 19) rfl Try.func46 mslaws_szDialedS ?_; apply szDialedS_b _ dszDialedS_63 <;> assumption
theorem dszLoggedS_64 : szLoggedS (DD 64) := by unfold szLoggedS; intros; refine lk (g := 64) rfl Try.func88 mslaws_szLogged ?_; apply szLogged_b _ dszDialedS_63 <;> assumption
theorem dszLoggedSS_20 : szLoggedSS (DD 20) := by unfold szLoggedSS; intros; refine lk (g := 20) rfl Try.func47 mslaws_szLoggedS ?_; apply szLoggedS_b _ dszLoggedS_64 <;> assumption
theorem dszWorldS_7 : szWorldS (DD 7) := by unfold szWorldS; intros; refine lk (g := 7) rfl Try.func22 mslaws_szWorld ?_; apply szWorld_b _ dszIntSS_16 dszEndpointSS_17 dszRolloutS_18 dszDialedSS_19 dszLoggedSS_20 <;> assumption
theorem dtoIntSS_31 : toIntSS (DD 31) := by unfold toIntSS; intros; refine lk (g := 31) rfl Try.func9 mslaws_toIntS ?_; apply toIntS_b _  <;> assumption
theorem dtoBoxS_226 : toBoxS (DD 226) := by unfold toBoxS; intros; refine lk (g := 226) rfl Try.func99 mslaws_toBox ?_; apply toBox_b _ dtoIntSS_31 <;> assumption
theorem dtoBoxSS_170 : toBoxSS (DD 170) := by unfold toBoxSS; intros; refine lk (g := 170) rfl Try.func70 mslaws_toBoxS ?_; apply toBoxS_b _ dtoBoxS_226 <;> assumption
theorem dtoEndpointS_98 : toEndpointS (DD 98) := by unfold toEndpointS; intros; refine lk (g := 98) rfl Try.func32 mslaws_toEndpoint ?_; apply toEndpoint_b _ dtoIntSS_31 dtoBoxSS_170 <;> assumption
theorem dtoEndpointSS_32 : toEndpointSS (DD 32) := by unfold toEndpointSS; intros; refine lk (g := 32) rfl Try.func10 mslaws_toEndpointS ?_; apply toEndpointS_b _ dtoEndpointS_98 <;> assumption
theorem dtoRolloutS_33 : toRolloutS (DD 33) := by unfold toRolloutS; intros; refine lk (g := 33) rfl Try.func11 mslaws_toRollout ?_; apply toRollout_b _ dtoIntSS_31 <;> assumption
theorem dtoDealS_171 : toDealS (DD 171) := by unfold toDealS; intros; refine lk (g := 171) rfl Try.func113 mslaws_toDeal ?_; apply toDeal_b _ dtoIntSS_31 <;> assumption
theorem dtoDialedS_99 : toDialedS (DD 99) := by unfold toDialedS; intros; refine lk (g := 99) rfl Try.func90 mslaws_toDialed ?_; apply toDialed_b _ dtoDealS_171 dtoIntSS_31 <;> assumption
theorem dtoDialedSS_34 : toDialedSS (DD 34) := by unfold toDialedSS; intros; refine lk (g := 34) rfl Try.func50 mslaws_toDialedS ?_; apply toDialedS_b _ dtoDialedS_99 <;> assumption
theorem dtoLoggedS_100 : toLoggedS (DD 100) := by unfold toLoggedS; intros; refine lk (g := 100) rfl Try.func91 mslaws_toLogged ?_; apply toLogged_b _ dtoDialedS_99 <;> assumption
theorem dtoLoggedSS_35 : toLoggedSS (DD 35) := by unfold toLoggedSS; intros; refine lk (g := 35) rfl Try.func51 mslaws_toLoggedS ?_; apply toLoggedS_b _ dtoLoggedS_100 <;> assumption
theorem dtoWorldS_8 : toWorldS (DD 8) := by unfold toWorldS; intros; refine lk (g := 8) rfl Try.func24 mslaws_toWorld ?_; apply toWorld_b _ dtoIntSS_31 dtoEndpointSS_32 dtoRolloutS_33 dtoDialedSS_34 dtoLoggedSS_35 <;> assumption
theorem deqIntSS_47 : eqIntSS (DD 47) := by unfold eqIntSS; intros; refine lk (g := 47) rfl Try.func14 mslaws_eqIntS ?_; apply eqIntS_b _  <;> assumption
theorem deqBoxS_249 : eqBoxS (DD 249) := by unfold eqBoxS; intros; refine lk (g := 249) rfl Try.func111 mslaws_eqBox ?_; apply eqBox_b _ deqIntSS_47 <;> assumption
theorem deqBoxSS_204 : eqBoxSS (DD 204) := by unfold eqBoxSS; intros; refine lk (g := 204) rfl Try.func85 mslaws_eqBoxS ?_; apply eqBoxS_b _ deqBoxS_249 <;> assumption
theorem deqEndpointS_134 : eqEndpointS (DD 134) := by unfold eqEndpointS; intros; refine lk (g := 134) rfl Try.func37 mslaws_eqEndpoint ?_; apply eqEndpoint_b _ deqIntSS_47 deqBoxSS_204 <;> assumption
theorem deqEndpointSS_48 : eqEndpointSS (DD 48) := by unfold eqEndpointSS; intros; refine lk (g := 48) rfl Try.func15 mslaws_eqEndpointS ?_; apply eqEndpointS_b _ deqEndpointS_134 <;> assumption
theorem deqRolloutS_49 : eqRolloutS (DD 49) := by unfold eqRolloutS; intros; refine lk (g := 49) rfl Try.func16 mslaws_eqRollout ?_; apply eqRollout_b _ deqIntSS_47 <;> assumption
theorem deqDealS_205 : eqDealS (DD 205) := by unfold eqDealS; intros; refine lk (g := 205) rfl Try.func110 mslaws_eqDeal ?_; apply eqDeal_b _ deqIntSS_47 <;> assumption
theorem deqDialedS_135 : eqDialedS (DD 135) := by unfold eqDialedS; intros; refine lk (g := 135) rfl Try.func83 mslaws_eqDialed ?_; apply eqDialed_b _ deqDealS_205 deqIntSS_47 <;> assumption
theorem deqDialedSS_50 : eqDialedSS (DD 50) := by unfold eqDialedSS; intros; refine lk (g := 50) rfl Try.func35 mslaws_eqDialedS ?_; apply eqDialedS_b _ deqDialedS_135 <;> assumption
theorem deqLoggedS_136 : eqLoggedS (DD 136) := by unfold eqLoggedS; intros; refine lk (g := 136) rfl Try.func84 mslaws_eqLogged ?_; apply eqLogged_b _ deqDialedS_135 <;> assumption
theorem deqLoggedSS_51 : eqLoggedSS (DD 51) := by unfold eqLoggedSS; intros; refine lk (g := 51) rfl Try.func36 mslaws_eqLoggedS ?_; apply eqLoggedS_b _ deqLoggedS_136 <;> assumption
theorem deqWorldS_11 : eqWorldS (DD 11) := by unfold eqWorldS; intros; refine lk (g := 11) rfl Try.func13 mslaws_eqWorld ?_; apply eqWorld_b _ deqIntSS_47 deqEndpointSS_48 deqRolloutS_49 deqDialedSS_50 deqLoggedSS_51 <;> assumption
theorem dmarkIntSS_52 : markIntSS (DD 52) := by unfold markIntSS; intros; refine lk (g := 52) rfl Try.func17 mslaws_markIntS ?_; apply markIntS_b _  <;> assumption
theorem dmarkBoxSS_137 : markBoxSS (DD 137) := by unfold markBoxSS; intros; refine lk (g := 137) rfl Try.func38 mslaws_markBoxS ?_; apply markBoxS_b _ dmarkIntSS_52 <;> assumption
theorem dmarkEndpointSS_53 : markEndpointSS (DD 53) := by unfold markEndpointSS; intros; refine lk (g := 53) rfl Try.func18 mslaws_markEndpointS ?_; apply markEndpointS_b _ dmarkIntSS_52 dmarkBoxSS_137 <;> assumption
theorem dmarkRolloutS_54 : markRolloutS (DD 54) := by unfold markRolloutS; intros; refine lk (g := 54) rfl Try.func19 mslaws_markRollout ?_; apply markRollout_b _ dmarkIntSS_52 <;> assumption
theorem dmarkDialedSS_55 : markDialedSS (DD 55) := by unfold markDialedSS; intros; refine lk (g := 55) rfl Try.func39 mslaws_markDialedS ?_; apply markDialedS_b _ dmarkIntSS_52 <;> assumption
theorem dmarkLoggedSS_56 : markLoggedSS (DD 56) := by unfold markLoggedSS; intros; refine lk (g := 56) rfl Try.func40 mslaws_markLoggedS ?_; apply markLoggedS_b _ dmarkIntSS_52 <;> assumption
theorem dmarkWorldS_12 : markWorldS (DD 12) := by unfold markWorldS; intros; refine lk (g := 12) rfl Try.func20 mslaws_markWorld ?_; apply markWorld_b _ dmarkIntSS_52 dmarkEndpointSS_53 dmarkRolloutS_54 dmarkDialedSS_55 dmarkLoggedSS_56 <;> assumption
theorem dheldIntSS_57 : heldIntSS (DD 57) := by unfold heldIntSS; intros; refine lk (g := 57) rfl Try.func41 mslaws_heldIntS ?_; apply heldIntS_b _  <;> assumption
theorem dheldBoxSS_138 : heldBoxSS (DD 138) := by unfold heldBoxSS; intros; refine lk (g := 138) rfl Try.func86 mslaws_heldBoxS ?_; apply heldBoxS_b _ dheldIntSS_57 <;> assumption
theorem dheldEndpointSS_58 : heldEndpointSS (DD 58) := by unfold heldEndpointSS; intros; refine lk (g := 58) rfl Try.func42 mslaws_heldEndpointS ?_; apply heldEndpointS_b _ dheldIntSS_57 dheldBoxSS_138 <;> assumption
theorem dheldRolloutS_59 : heldRolloutS (DD 59) := by unfold heldRolloutS; intros; refine lk (g := 59) rfl Try.func43 mslaws_heldRollout ?_; apply heldRollout_b _ dheldIntSS_57 <;> assumption
theorem dheldDialedSS_60 : heldDialedSS (DD 60) := by unfold heldDialedSS; intros; refine lk (g := 60) rfl Try.func44 mslaws_heldDialedS ?_; apply heldDialedS_b _ dheldIntSS_57 <;> assumption
theorem dheldLoggedSS_61 : heldLoggedSS (DD 61) := by unfold heldLoggedSS; intros; refine lk (g := 61) rfl Try.func45 mslaws_heldLoggedS ?_; apply heldLoggedS_b _ dheldIntSS_57 <;> assumption
theorem dheldWorldS_13 : heldWorldS (DD 13) := by unfold heldWorldS; intros; refine lk (g := 13) rfl Try.func21 mslaws_heldWorld ?_; apply heldWorld_b _ dheldIntSS_57 dheldEndpointSS_58 dheldRolloutS_59 dheldDialedSS_60 dheldLoggedSS_61 <;> assumption
theorem dFnExactStepRetireS_444 : FnExactStepRetireS (DD 444) := by unfold FnExactStepRetireS; intros; refine lk (g := 444) rfl Try.func5 mslaws_FnExactStepRetire ?_; apply FnExactStepRetire_b _ dStepRetireS_76 dStepRetireS_109 dszWorldS_7 dtoWorldS_8 deqWorldS_11 dmarkWorldS_12 dheldWorldS_13 <;> assumption
theorem den (av : List V) (h : ArgsV [tyWorld, .int .i64, .int .i64] av) : DD 444 av [] (B true) [] := by
  obtain ⟨v0, r0, h0, hr0, rfl⟩ := h
  obtain ⟨x0, rfl, l0, w0⟩ := argWorld h0
  obtain ⟨v1, r1, h1, hr1, rfl⟩ := hr0
  obtain ⟨x1, rfl, w1⟩ := argI h1
  obtain ⟨v2, r2, h2, hr2, rfl⟩ := hr1
  obtain ⟨x2, rfl, w2⟩ := argI h2
  have z : r2 = [] := hr2
  subst z
  apply dFnExactStepRetireS_444 <;> assumption
end Go.Eng.T

