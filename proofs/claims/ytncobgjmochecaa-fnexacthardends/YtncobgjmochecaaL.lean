/- Own work: part 46 of the proof of FnExactHardEnds. -/
import Derived.Test.YtncobgjmochecaaP45
import Derived.Test.YtncobgjmochecaaProg
import Derived.KernelRfl
namespace Go.Eng.T
open Go.Proofs
def fidL : List (Option Nat) := [none, none, none, none, none, none, none, some 5, some 7, none, none, some 10, some 11, none, none, none, some 26, some 14, some 15, some 27, some 28, none, none, none, none, none, none, none, none, none, none, some 17, some 18, some 19, some 30, some 31, none, none, none, none, none, none, none, none, none, none, none, some 9, some 21, some 22, some 33, some 34, some 12, some 23, some 24, some 35, some 36, some 13, none, none, none, none, some 37, some 49, some 50, none, none, none, none, none, none, some 69, none, none, none, none, none, none, none, none, none, none, none, none, some 6, none, none, none, none, none, none, none, none, none, none, none, none, none, some 40, some 52, some 53, none, none, none, none, none, none, none, none, none, none, none, none, none, some 83, none, none, none, none, none, none, none, none, none, none, none, none, none, none, some 8, none, none, none, none, some 43, some 55, some 56, some 44, none, some 57, some 86, none, none, none, none, none, none, none, none, none, none, none, some 87, none, none, none, none, some 29, none, none, none, none, none, none, none, none, some 66, none, none, none, some 70, some 91, none, none, none, none, none, none, none, none, none, none, none, some 92, none, none, none, none, some 82, none, none, none, none, none, none, some 32, none, none, none, none, none, none, none, none, some 84, some 97, some 98, none, some 62, none, none, none, none, none, none, none, none, some 114, some 51, none, none, none, none, none, none, none, some 101, none, none, none, none, none, some 103, some 107, none, none, none, none, none, none, none, none, none, none, some 54, none, none, none, none, some 113, none, none, none, none, none, none, some 88, some 89, some 90, none, none, none, none, none, none, none, some 125, some 93, none, none, none, none, none, none, none, none, some 94, some 95, none, none, none, none, none, none, none, some 115, none, none, none, none, none, none, some 117, none, some 96, some 118, some 119, some 121, some 120, none, none, none, none, none, none, none, none, none, none, some 133, none, none, some 128, none, none, none, none, none, none, none, some 129, some 134, none, none, none, some 130, some 132, some 131, none, none, none, none, none, none, none, none, none, none, none, none, none, none, none, none, none, none, none, none, none, none, none, some 136, some 135, none, none, none, none, none, none, none, none, none, none, none, none, none, none, none, none, none, none, none, none, none, none, none, none, none, none, none, none, none, none, none, none, none, none, none, none, some 112, none, none, none, none, none, none, none, none, none, none, none, none, none, none, some 116, none, none, none, none, none, none, none, none, none, none, none, none, none, none, none, none, none, none, none, none, none, none, none, none, none, none, none, none, none, none, none, none, some 3, none, none, none, none, none, none, none, none, none, none, none, none, none, none, none, none, none, none, none, none, none]
def fid : Nat → Option FuncId := fun g => fidL.getD g none
theorem hmix : Try.prog.follows .mixedOrders = true := by kernel_rfl
theorem hFl : fidL.all (fun o => match o with | some f => okF Try.prog f | none => true) = true := by kernel_rfl
theorem hF : ∀ g f, fid g = some f → okF Try.prog f = true := by
  intro g f h
  have := List.all_eq_true.1 hFl (some f) (by
    unfold fid at h
    rw [List.getD_eq_getElem?_getD] at h
    cases hg : fidL[g]? with
    | none => simp [hg] at h
    | some o => simp [hg] at h; subst h; exact List.mem_of_getElem? hg)
  exact this
abbrev G0 : Gl := ⟨fun _ => False, fun _ => none⟩
abbrev DD : Dn := Den Try.prog fid G0
theorem lk {g : Nat} {f : FuncId} {fn : Func} {st : List Tmp} {sf : SFn} (hg : fid g = some f) (hfn : Try.prog.funcs[f]? = some fn) (hm : mFn Try.prog fid st sf fn = true) {a : List V} {gi : List O} {r : V} {o : List O}
    (h : Body DD sf a gi r o) : DD g a gi r o :=
  fn_sound hmix (fun _ _ _ _ _ h => h) hF (fun id hid => by rw [hg] at hid; cases hid; exact hfn) hm h
theorem msspec_l1In : mFn Try.prog fid sspec_l1In_t sspec_l1In Try.f69 = true := by kernel_rfl
theorem msspec_l9Byte : mFn Try.prog fid sspec_l9Byte_t sspec_l9Byte Try.f114 = true := by kernel_rfl
theorem msspec_IsBox : mFn Try.prog fid sspec_IsBox_t sspec_IsBox Try.f87 = true := by kernel_rfl
theorem msspec_PlainHello : mFn Try.prog fid sspec_PlainHello_t sspec_PlainHello Try.f88 = true := by kernel_rfl
theorem msspec_l29One : mFn Try.prog fid sspec_l29One_t sspec_l29One Try.f89 = true := by kernel_rfl
theorem msspec_AreVersions : mFn Try.prog fid sspec_AreVersions_t sspec_AreVersions Try.f62 = true := by kernel_rfl
theorem msspec_ExtOf : mFn Try.prog fid sspec_ExtOf_t sspec_ExtOf Try.f133 = true := by kernel_rfl
theorem msspec_AreExts : mFn Try.prog fid sspec_AreExts_t sspec_AreExts Try.f128 = true := by kernel_rfl
theorem msspec_IsHello : mFn Try.prog fid sspec_IsHello_t sspec_IsHello Try.f115 = true := by kernel_rfl
theorem msspec_l9Has : mFn Try.prog fid sspec_l9Has_t sspec_l9Has Try.f66 = true := by kernel_rfl
theorem msspec_PassBox : mFn Try.prog fid sspec_PassBox_t sspec_PassBox Try.f90 = true := by kernel_rfl
theorem msspec_RefusesGrease : mFn Try.prog fid sspec_RefusesGrease_t sspec_RefusesGrease Try.f51 = true := by kernel_rfl
theorem msspec_HardenedBoxes : mFn Try.prog fid sspec_HardenedBoxes_t sspec_HardenedBoxes Try.f29 = true := by kernel_rfl
theorem msspec_HardEnds : mFn Try.prog fid sspec_HardEnds_t sspec_HardEnds Try.f6 = true := by kernel_rfl
theorem msimpl_InRange : mFn Try.prog fid simpl_InRange_t simpl_InRange Try.f83 = true := by kernel_rfl
theorem msimpl_areNumbers_1 : mFn Try.prog fid simpl_areNumbers_1_t simpl_areNumbers_1 Try.f125 = true := by kernel_rfl
theorem msslices_IndexFunc___int_int_ : mFn Try.prog fid sslices_IndexFunc___int_int__t sslices_IndexFunc___int_int_ Try.f116 = true := by kernel_rfl
theorem msslices_ContainsFunc___int_int_ : mFn Try.prog fid sslices_ContainsFunc___int_int__t sslices_ContainsFunc___int_int_ Try.f93 = true := by kernel_rfl
theorem msimpl_areNumbers : mFn Try.prog fid simpl_areNumbers_t simpl_areNumbers Try.f107 = true := by kernel_rfl
theorem msimpl_IsBox : mFn Try.prog fid simpl_IsBox_t simpl_IsBox Try.f92 = true := by kernel_rfl
theorem msimpl_reservedTags : mFn Try.prog fid simpl_reservedTags_t simpl_reservedTags Try.f94 = true := by kernel_rfl
theorem msimpl_AreVersions : mFn Try.prog fid simpl_AreVersions_t simpl_AreVersions Try.f103 = true := by kernel_rfl
theorem msimpl_ExtOf_1 : mFn Try.prog fid simpl_ExtOf_1_t simpl_ExtOf_1 Try.f136 = true := by kernel_rfl
theorem msslices_IndexFunc___impl_Ext_impl_Ext_ : mFn Try.prog fid sslices_IndexFunc___impl_Ext_impl_Ext__t sslices_IndexFunc___impl_Ext_impl_Ext_ Try.f135 = true := by kernel_rfl
theorem msimpl_ExtOf : mFn Try.prog fid simpl_ExtOf_t simpl_ExtOf Try.f134 = true := by kernel_rfl
theorem msimpl_AreExts : mFn Try.prog fid simpl_AreExts_t simpl_AreExts Try.f129 = true := by kernel_rfl
theorem msimpl_IsHello : mFn Try.prog fid simpl_IsHello_t simpl_IsHello Try.f117 = true := by kernel_rfl
theorem msslices_Index___int_int_ : mFn Try.prog fid sslices_Index___int_int__t sslices_Index___int_int_ Try.f112 = true := by kernel_rfl
theorem msslices_Contains___int_int_ : mFn Try.prog fid sslices_Contains___int_int__t sslices_Contains___int_int_ Try.f82 = true := by kernel_rfl
theorem msimpl_loses_1 : mFn Try.prog fid simpl_loses_1_t simpl_loses_1 Try.f132 = true := by kernel_rfl
theorem msslices_ContainsFunc___impl_Ext_impl_Ext_ : mFn Try.prog fid sslices_ContainsFunc___impl_Ext_impl_Ext__t sslices_ContainsFunc___impl_Ext_impl_Ext_ Try.f131 = true := by kernel_rfl
theorem msimpl_loses : mFn Try.prog fid simpl_loses_t simpl_loses Try.f118 = true := by kernel_rfl
theorem msimpl_PassBox_1 : mFn Try.prog fid simpl_PassBox_1_t simpl_PassBox_1 Try.f121 = true := by kernel_rfl
theorem msimpl_keptExts : mFn Try.prog fid simpl_keptExts_t simpl_keptExts Try.f120 = true := by kernel_rfl
theorem msimpl_PassBox : mFn Try.prog fid simpl_PassBox_t simpl_PassBox Try.f96 = true := by kernel_rfl
theorem msimpl_RefusesGrease_1 : mFn Try.prog fid simpl_RefusesGrease_1_t simpl_RefusesGrease_1 Try.f95 = true := by kernel_rfl
theorem msimpl_RefusesGrease : mFn Try.prog fid simpl_RefusesGrease_t simpl_RefusesGrease Try.f54 = true := by kernel_rfl
theorem msimpl_HardenedBoxes : mFn Try.prog fid simpl_HardenedBoxes_t simpl_HardenedBoxes Try.f32 = true := by kernel_rfl
theorem msimpl_HardEnds : mFn Try.prog fid simpl_HardEnds_t simpl_HardEnds Try.f8 = true := by kernel_rfl
theorem mslaws_szIntS : mFn Try.prog fid slaws_szIntS_t slaws_szIntS Try.f26 = true := by kernel_rfl
theorem mslaws_szBox : mFn Try.prog fid slaws_szBox_t slaws_szBox Try.f98 = true := by kernel_rfl
theorem mslaws_szBoxS : mFn Try.prog fid slaws_szBoxS_t slaws_szBoxS Try.f57 = true := by kernel_rfl
theorem mslaws_szEndpoint : mFn Try.prog fid slaws_szEndpoint_t slaws_szEndpoint Try.f37 = true := by kernel_rfl
theorem mslaws_szEndpointS : mFn Try.prog fid slaws_szEndpointS_t slaws_szEndpointS Try.f14 = true := by kernel_rfl
theorem mslaws_szRollout : mFn Try.prog fid slaws_szRollout_t slaws_szRollout Try.f15 = true := by kernel_rfl
theorem mslaws_szDeal : mFn Try.prog fid slaws_szDeal_t slaws_szDeal Try.f86 = true := by kernel_rfl
theorem mslaws_szDialed : mFn Try.prog fid slaws_szDialed_t slaws_szDialed Try.f49 = true := by kernel_rfl
theorem mslaws_szDialedS : mFn Try.prog fid slaws_szDialedS_t slaws_szDialedS Try.f27 = true := by kernel_rfl
theorem mslaws_szLogged : mFn Try.prog fid slaws_szLogged_t slaws_szLogged Try.f50 = true := by kernel_rfl
theorem mslaws_szLoggedS : mFn Try.prog fid slaws_szLoggedS_t slaws_szLoggedS Try.f28 = true := by kernel_rfl
theorem mslaws_szWorld : mFn Try.prog fid slaws_szWorld_t slaws_szWorld Try.f5 = true := by kernel_rfl
theorem mslaws_toIntS : mFn Try.prog fid slaws_toIntS_t slaws_toIntS Try.f17 = true := by kernel_rfl
theorem mslaws_toBox : mFn Try.prog fid slaws_toBox_t slaws_toBox Try.f101 = true := by kernel_rfl
theorem mslaws_toBoxS : mFn Try.prog fid slaws_toBoxS_t slaws_toBoxS Try.f70 = true := by kernel_rfl
theorem mslaws_toEndpoint : mFn Try.prog fid slaws_toEndpoint_t slaws_toEndpoint Try.f40 = true := by kernel_rfl
theorem mslaws_toEndpointS : mFn Try.prog fid slaws_toEndpointS_t slaws_toEndpointS Try.f18 = true := by kernel_rfl
theorem mslaws_toRollout : mFn Try.prog fid slaws_toRollout_t slaws_toRollout Try.f19 = true := by kernel_rfl
theorem mslaws_toDeal : mFn Try.prog fid slaws_toDeal_t slaws_toDeal Try.f91 = true := by kernel_rfl
theorem mslaws_toDialed : mFn Try.prog fid slaws_toDialed_t slaws_toDialed Try.f52 = true := by kernel_rfl
theorem mslaws_toDialedS : mFn Try.prog fid slaws_toDialedS_t slaws_toDialedS Try.f30 = true := by kernel_rfl
theorem mslaws_toLogged : mFn Try.prog fid slaws_toLogged_t slaws_toLogged Try.f53 = true := by kernel_rfl
theorem mslaws_toLoggedS : mFn Try.prog fid slaws_toLoggedS_t slaws_toLoggedS Try.f31 = true := by kernel_rfl
theorem mslaws_toWorld : mFn Try.prog fid slaws_toWorld_t slaws_toWorld Try.f7 = true := by kernel_rfl
theorem mslaws_eqIntS : mFn Try.prog fid slaws_eqIntS_t slaws_eqIntS Try.f9 = true := by kernel_rfl
theorem mslaws_eqBox : mFn Try.prog fid slaws_eqBox_t slaws_eqBox Try.f113 = true := by kernel_rfl
theorem mslaws_eqBoxS : mFn Try.prog fid slaws_eqBoxS_t slaws_eqBoxS Try.f84 = true := by kernel_rfl
theorem mslaws_eqEndpoint : mFn Try.prog fid slaws_eqEndpoint_t slaws_eqEndpoint Try.f43 = true := by kernel_rfl
theorem mslaws_eqEndpointS : mFn Try.prog fid slaws_eqEndpointS_t slaws_eqEndpointS Try.f21 = true := by kernel_rfl
theorem mslaws_eqRollout : mFn Try.prog fid slaws_eqRollout_t slaws_eqRollout Try.f22 = true := by kernel_rfl
theorem mslaws_eqDeal : mFn Try.prog fid slaws_eqDeal_t slaws_eqDeal Try.f97 = true := by kernel_rfl
theorem mslaws_eqDialed : mFn Try.prog fid slaws_eqDialed_t slaws_eqDialed Try.f55 = true := by kernel_rfl
theorem mslaws_eqDialedS : mFn Try.prog fid slaws_eqDialedS_t slaws_eqDialedS Try.f33 = true := by kernel_rfl
theorem mslaws_eqLogged : mFn Try.prog fid slaws_eqLogged_t slaws_eqLogged Try.f56 = true := by kernel_rfl
theorem mslaws_eqLoggedS : mFn Try.prog fid slaws_eqLoggedS_t slaws_eqLoggedS Try.f34 = true := by kernel_rfl
theorem mslaws_eqWorld : mFn Try.prog fid slaws_eqWorld_t slaws_eqWorld Try.f10 = true := by kernel_rfl
theorem mslaws_markIntS : mFn Try.prog fid slaws_markIntS_t slaws_markIntS Try.f12 = true := by kernel_rfl
theorem mslaws_markBoxS : mFn Try.prog fid slaws_markBoxS_t slaws_markBoxS Try.f44 = true := by kernel_rfl
theorem mslaws_markEndpointS : mFn Try.prog fid slaws_markEndpointS_t slaws_markEndpointS Try.f23 = true := by kernel_rfl
theorem mslaws_markRollout : mFn Try.prog fid slaws_markRollout_t slaws_markRollout Try.f24 = true := by kernel_rfl
theorem mslaws_markDialedS : mFn Try.prog fid slaws_markDialedS_t slaws_markDialedS Try.f35 = true := by kernel_rfl
theorem mslaws_markLoggedS : mFn Try.prog fid slaws_markLoggedS_t slaws_markLoggedS Try.f36 = true := by kernel_rfl
theorem mslaws_markWorld : mFn Try.prog fid slaws_markWorld_t slaws_markWorld Try.f11 = true := by kernel_rfl
theorem mslaws_heldIntS : mFn Try.prog fid slaws_heldIntS_t slaws_heldIntS Try.f13 = true := by kernel_rfl
theorem mslaws_FnExactHardEnds : mFn Try.prog fid slaws_FnExactHardEnds_t slaws_FnExactHardEnds Try.f3 = true := by kernel_rfl
theorem dInS_71 : InS (DD 71) := by unfold InS; intros; refine lk (g := 71) rfl Try.func69 msspec_l1In ?_; apply l1In_b _  <;> assumption
theorem dl9ByteS_217 : l9ByteS (DD 217) := by unfold l9ByteS; intros; refine lk (g := 217) rfl Try.func114 msspec_l9Byte ?_; apply l9Byte_b _ dInS_71 <;> assumption
theorem dIsBoxS_152 : IsBoxS (DD 152) := by unfold IsBoxS; intros; refine lk (g := 152) rfl Try.func87 msspec_IsBox ?_; apply sIsBox_b _ dInS_71 dl9ByteS_217 <;> assumption
theorem dPlainHelloS_256 : PlainHelloS (DD 256) := by unfold PlainHelloS; intros; refine lk (g := 256) rfl Try.func88 msspec_PlainHello ?_; apply sPlainHello_b _  <;> assumption
theorem dl29OneS_257 : l29OneS (DD 257) := by unfold l29OneS; intros; refine lk (g := 257) rfl Try.func89 msspec_l29One ?_; apply l29One_b _  <;> assumption
theorem dAreVersionsS_208 : AreVersionsS (DD 208) := by unfold AreVersionsS; intros; refine lk (g := 208) rfl Try.func62 msspec_AreVersions ?_; apply sAreVersions_b _ dInS_71 <;> assumption
theorem dExtOfS_309 : ExtOfS (DD 309) := by unfold ExtOfS; intros; refine lk (g := 309) rfl Try.func133 msspec_ExtOf ?_; apply sExtOf_b _  <;> assumption
theorem dAreExtsS_312 : AreExtsS (DD 312) := by unfold AreExtsS; intros; refine lk (g := 312) rfl Try.func128 msspec_AreExts ?_; apply sAreExts_b _ dInS_71 dl9ByteS_217 dExtOfS_309 <;> assumption
theorem dIsHelloS_285 : IsHelloS (DD 285) := by unfold IsHelloS; intros; refine lk (g := 285) rfl Try.func115 msspec_IsHello ?_; apply sIsHello_b _ dAreVersionsS_208 dAreExtsS_312 <;> assumption
theorem dHasS_166 : HasS (DD 166) := by unfold HasS; intros; refine lk (g := 166) rfl Try.func66 msspec_l9Has ?_; apply l9Has_b _  <;> assumption
theorem dPassBoxS_258 : PassBoxS (DD 258) := by unfold PassBoxS; intros; refine lk (g := 258) rfl Try.func90 msspec_PassBox ?_; apply sPassBox_b _ dIsBoxS_152 dIsHelloS_285 dHasS_166 dInS_71 <;> assumption
theorem dRefusesS_218 : RefusesS (DD 218) := by unfold RefusesS; intros; refine lk (g := 218) rfl Try.func51 msspec_RefusesGrease ?_; apply sRefuses_b _ dIsBoxS_152 dPlainHelloS_256 dl29OneS_257 dPassBoxS_258 <;> assumption
theorem dHardBoxesS_157 : HardBoxesS (DD 157) := by unfold HardBoxesS; intros; refine lk (g := 157) rfl Try.func29 msspec_HardenedBoxes ?_; apply sHardBoxes_b _ dRefusesS_218 <;> assumption
theorem dHardEndsS_84 : HardEndsS (DD 84) := by unfold HardEndsS; intros; refine lk (g := 84) rfl Try.func6 msspec_HardEnds ?_; apply sHardEnds_b _ dHardBoxesS_157 <;> assumption
theorem dInS_114 : InS (DD 114) := by unfold InS; intros; refine lk (g := 114) rfl Try.func83 msimpl_InRange ?_; apply InRange_b _  <;> assumption
theorem dareNumbers1S_266 : areNumbers1S (DD 266) := by unfold areNumbers1S; intros; refine lk (g := 266) rfl Try.func125 msimpl_areNumbers_1 ?_; apply areNumbers1_b _ dInS_114 <;> assumption
theorem dIndexFuncS_404 : IndexFuncS DD (DD 404) := by unfold IndexFuncS; intros; refine lk (g := 404) rfl Try.func116 msslices_IndexFunc___int_int_ ?_; apply IndexFunc_b _  <;> assumption
theorem dContainsFuncS_267 : ContainsFuncS DD (DD 267) := by unfold ContainsFuncS; intros; refine lk (g := 267) rfl Try.func93 msslices_ContainsFunc___int_int_ ?_; apply ContainsFunc_b _ dIndexFuncS_404 <;> assumption
theorem dareNumbersS_233 : areNumbersS (DD 233) := by unfold areNumbersS; intros; refine lk (g := 233) rfl Try.func107 msimpl_areNumbers ?_; apply areNumbers_b _ dareNumbers1S_266 dContainsFuncS_267 <;> assumption
theorem dIsBoxS_183 : IsBoxS (DD 183) := by unfold IsBoxS; intros; refine lk (g := 183) rfl Try.func92 msimpl_IsBox ?_; apply iIsBox_b _ dInS_114 dareNumbersS_233 <;> assumption
theorem dresTagsS_276 : resTagsS (DD 276) := by unfold resTagsS; intros; refine lk (g := 276) rfl Try.func94 msimpl_reservedTags ?_; apply reservedTags_b _  <;> assumption
theorem dAreVersionsS_232 : AreVersionsS (DD 232) := by unfold AreVersionsS; intros; refine lk (g := 232) rfl Try.func103 msimpl_AreVersions ?_; apply iAreVersions_b _ dInS_114 <;> assumption
theorem dExtOf1S_351 : ExtOf1S (DD 351) := by unfold ExtOf1S; intros; refine lk (g := 351) rfl Try.func136 msimpl_ExtOf_1 ?_; apply ExtOf1_b _  <;> assumption
theorem dIndexFuncExtS_352 : IndexFuncExtS DD (DD 352) := by unfold IndexFuncExtS; intros; refine lk (g := 352) rfl Try.func135 msslices_IndexFunc___impl_Ext_impl_Ext_ ?_; apply IndexFuncExt_b _  <;> assumption
theorem dExtOfS_321 : ExtOfS (DD 321) := by unfold ExtOfS; intros; refine lk (g := 321) rfl Try.func134 msimpl_ExtOf ?_; apply iExtOf_b _ dExtOf1S_351 dIndexFuncExtS_352 <;> assumption
theorem dAreExtsS_320 : AreExtsS (DD 320) := by unfold AreExtsS; intros; refine lk (g := 320) rfl Try.func129 msimpl_AreExts ?_; apply iAreExts_b _ dInS_114 dExtOfS_321 dareNumbersS_233 <;> assumption
theorem dIsHelloS_292 : IsHelloS (DD 292) := by unfold IsHelloS; intros; refine lk (g := 292) rfl Try.func117 msimpl_IsHello ?_; apply iIsHello_b _ dAreVersionsS_232 dAreExtsS_320 <;> assumption
theorem dMaxS_325 : MaxS (DD 325) := max_den (k := 130) rfl (fun b off n c zs w h1 h2 h3 h4 => Try.slices_Max_int b off n c zs w h1 h2 h3 h4)
theorem dIndexS_389 : IndexS (DD 389) := by unfold IndexS; intros; refine lk (g := 389) rfl Try.func112 msslices_Index___int_int_ ?_; apply Index_b _  <;> assumption
theorem dHasS_188 : HasS (DD 188) := by unfold HasS; intros; refine lk (g := 188) rfl Try.func82 msslices_Contains___int_int_ ?_; apply Contains_b _ dIndexS_389 <;> assumption
theorem dloses1S_326 : loses1S (DD 326) := by unfold loses1S; intros; refine lk (g := 326) rfl Try.func132 msimpl_loses_1 ?_; apply loses1_b _ dHasS_188 dInS_114 <;> assumption
theorem dContainsFuncExtS_327 : ContainsFuncExtS DD (DD 327) := by unfold ContainsFuncExtS; intros; refine lk (g := 327) rfl Try.func131 msslices_ContainsFunc___impl_Ext_impl_Ext_ ?_; apply ContainsFuncExt_b _ dIndexFuncExtS_352 <;> assumption
theorem dlosesS_295 : losesS (DD 295) := by unfold losesS; intros; refine lk (g := 295) rfl Try.func118 msimpl_loses ?_; apply loses_b _ dMaxS_325 dloses1S_326 dContainsFuncExtS_327 <;> assumption
theorem dCloneS_296 : CloneS (DD 296) := clone_den (k := 119) rfl (fun n c w => Try.slices_Clone_int_nil n c w) (fun a c w => Try.slices_Clone_int_zero a c w) (fun b off n c zs w h1 h2 h3 => Try.slices_Clone_int b off n c zs w h1 h2 h3)
theorem dPassBox1S_297 : PassBox1S (DD 297) := by unfold PassBox1S; intros; refine lk (g := 297) rfl Try.func121 msimpl_PassBox_1 ?_; apply PassBox1_b _ dHasS_188 <;> assumption
theorem dkeptExtsS_298 : keptExtsS DD (DD 298) := by unfold keptExtsS; intros; refine lk (g := 298) rfl Try.func120 msimpl_keptExts ?_; apply keptExts_b _  <;> assumption
theorem dPassBoxS_294 : PassBoxS (DD 294) := by unfold PassBoxS; intros; refine lk (g := 294) rfl Try.func96 msimpl_PassBox ?_; apply iPassBox_b _ dIsBoxS_183 dIsHelloS_292 dlosesS_295 dCloneS_296 dPassBox1S_297 dkeptExtsS_298 <;> assumption
theorem dRefuses1S_277 : Refuses1S (DD 277) := by unfold Refuses1S; intros; refine lk (g := 277) rfl Try.func95 msimpl_RefusesGrease_1 ?_; apply Refuses1_b _ dPassBoxS_294 <;> assumption
theorem dRefusesS_244 : RefusesS (DD 244) := by unfold RefusesS; intros; refine lk (g := 244) rfl Try.func54 msimpl_RefusesGrease ?_; apply iRefuses_b _ dIsBoxS_183 dresTagsS_276 dRefuses1S_277 dContainsFuncS_267 <;> assumption
theorem dHardBoxesS_195 : HardBoxesS (DD 195) := by unfold HardBoxesS; intros; refine lk (g := 195) rfl Try.func32 msimpl_HardenedBoxes ?_; apply iHardBoxes_b _ dRefusesS_244 <;> assumption
theorem dHardEndsS_129 : HardEndsS (DD 129) := by unfold HardEndsS; intros; refine lk (g := 129) rfl Try.func8 msimpl_HardEnds ?_; apply iHardEnds_b _ dHardBoxesS_195 <;> assumption
theorem dszIntSS_16 : szIntSS (DD 16) := by unfold szIntSS; intros; refine lk (g := 16) rfl Try.func26 mslaws_szIntS ?_; apply szIntS_b _  <;> assumption
theorem dszBoxS_206 : szBoxS (DD 206) := by unfold szBoxS; intros; refine lk (g := 206) rfl Try.func98 mslaws_szBox ?_; apply szBox_b _ dszIntSS_16 <;> assumption
theorem dszBoxSS_139 : szBoxSS (DD 139) := by unfold szBoxSS; intros; refine lk (g := 139) rfl Try.func57 mslaws_szBoxS ?_; apply szBoxS_b _ dszBoxS_206 <;> assumption
theorem dszEndpointS_62 : szEndpointS (DD 62) := by unfold szEndpointS; intros; refine lk (g := 62) rfl Try.func37 mslaws_szEndpoint ?_; apply szEndpoint_b _ dszIntSS_16 dszBoxSS_139 <;> assumption
theorem dszEndpointSS_17 : szEndpointSS (DD 17) := by unfold szEndpointSS; intros; refine lk (g := 17) rfl Try.func14 mslaws_szEndpointS ?_; apply szEndpointS_b _ dszEndpointS_62 <;> assumption
theorem dszRolloutS_18 : szRolloutS (DD 18) := by unfold szRolloutS; intros; refine lk (g := 18) rfl Try.func15 mslaws_szRollout ?_; apply szRollout_b _ dszIntSS_16 <;> assumption
theorem dszDealS_140 : szDealS (DD 140) := by unfold szDealS; intros; refine lk (g := 140) rfl Try.func86 mslaws_szDeal ?_; apply szDeal_b _ dszIntSS_16 <;> assumption
theorem dszDialedS_63 : szDialedS (DD 63) := by unfold szDialedS; intros; refine lk (g := 63) rfl Try.func49 mslaws_szDialed ?_; apply szDialed_b _ dszDealS_140 dszIntSS_16 <;> assumption
theorem dszDialedSS_19 : szDialedSS (DD 19) := by unfold szDialedSS; intros; refine lk (g := 19) rfl Try.func27 mslaws_szDialedS ?_; apply szDialedS_b _ dszDialedS_63 <;> assumption
theorem dszLoggedS_64 : szLoggedS (DD 64) := by unfold szLoggedS; intros; refine lk (g := 64) rfl Try.func50 mslaws_szLogged ?_; apply szLogged_b _ dszDialedS_63 <;> assumption
theorem dszLoggedSS_20 : szLoggedSS (DD 20) := by unfold szLoggedSS; intros; refine lk (g := 20) rfl Try.func28 mslaws_szLoggedS ?_; apply szLoggedS_b _ dszLoggedS_64 <;> assumption
theorem dszWorldS_7 : szWorldS (DD 7) := by unfold szWorldS; intros; refine lk (g := 7) rfl Try.func5 mslaws_szWorld ?_; apply szWorld_b _ dszIntSS_16 dszEndpointSS_17 dszRolloutS_18 dszDialedSS_19 dszLoggedSS_20 <;> assumption
theorem dtoIntSS_31 : toIntSS (DD 31) := by unfold toIntSS; intros; refine lk (g := 31) rfl Try.func17 mslaws_toIntS ?_; apply toIntS_b _  <;> assumption
theorem dtoBoxS_226 : toBoxS (DD 226) := by unfold toBoxS; intros; refine lk (g := 226) rfl Try.func101 mslaws_toBox ?_; apply toBox_b _ dtoIntSS_31 <;> assumption
theorem dtoBoxSS_170 : toBoxSS (DD 170) := by unfold toBoxSS; intros; refine lk (g := 170) rfl Try.func70 mslaws_toBoxS ?_; apply toBoxS_b _ dtoBoxS_226 <;> assumption
theorem dtoEndpointS_98 : toEndpointS (DD 98) := by unfold toEndpointS; intros; refine lk (g := 98) rfl Try.func40 mslaws_toEndpoint ?_; apply toEndpoint_b _ dtoIntSS_31 dtoBoxSS_170 <;> assumption
theorem dtoEndpointSS_32 : toEndpointSS (DD 32) := by unfold toEndpointSS; intros; refine lk (g := 32) rfl Try.func18 mslaws_toEndpointS ?_; apply toEndpointS_b _ dtoEndpointS_98 <;> assumption
theorem dtoRolloutS_33 : toRolloutS (DD 33) := by unfold toRolloutS; intros; refine lk (g := 33) rfl Try.func19 mslaws_toRollout ?_; apply toRollout_b _ dtoIntSS_31 <;> assumption
theorem dtoDealS_171 : toDealS (DD 171) := by unfold toDealS; intros; refine lk (g := 171) rfl Try.func91 mslaws_toDeal ?_; apply toDeal_b _ dtoIntSS_31 <;> assumption
theorem dtoDialedS_99 : toDialedS (DD 99) := by unfold toDialedS; intros; refine lk (g := 99) rfl Try.func52 mslaws_toDialed ?_; apply toDialed_b _ dtoDealS_171 dtoIntSS_31 <;> assumption
theorem dtoDialedSS_34 : toDialedSS (DD 34) := by unfold toDialedSS; intros; refine lk (g := 34) rfl Try.func30 mslaws_toDialedS ?_; apply toDialedS_b _ dtoDialedS_99 <;> assumption
theorem dtoLoggedS_100 : toLoggedS (DD 100) := by unfold toLoggedS; intros; refine lk (g := 100) rfl Try.func53 mslaws_toLogged ?_; apply toLogged_b _ dtoDialedS_99 <;> assumption
theorem dtoLoggedSS_35 : toLoggedSS (DD 35) := by unfold toLoggedSS; intros; refine lk (g := 35) rfl Try.func31 mslaws_toLoggedS ?_; apply toLoggedS_b _ dtoLoggedS_100 <;> assumption
theorem dtoWorldS_8 : toWorldS (DD 8) := by unfold toWorldS; intros; refine lk (g := 8) rfl Try.func7 mslaws_toWorld ?_; apply toWorld_b _ dtoIntSS_31 dtoEndpointSS_32 dtoRolloutS_33 dtoDialedSS_34 dtoLoggedSS_35 <;> assumption
theorem deqIntSS_47 : eqIntSS (DD 47) := by unfold eqIntSS; intros; refine lk (g := 47) rfl Try.func9 mslaws_eqIntS ?_; apply eqIntS_b _  <;> assumption
theorem deqBoxS_249 : eqBoxS (DD 249) := by unfold eqBoxS; intros; refine lk (g := 249) rfl Try.func113 mslaws_eqBox ?_; apply eqBox_b _ deqIntSS_47 <;> assumption
theorem deqBoxSS_204 : eqBoxSS (DD 204) := by unfold eqBoxSS; intros; refine lk (g := 204) rfl Try.func84 mslaws_eqBoxS ?_; apply eqBoxS_b _ deqBoxS_249 <;> assumption
theorem deqEndpointS_134 : eqEndpointS (DD 134) := by unfold eqEndpointS; intros; refine lk (g := 134) rfl Try.func43 mslaws_eqEndpoint ?_; apply eqEndpoint_b _ deqIntSS_47 deqBoxSS_204 <;> assumption
theorem deqEndpointSS_48 : eqEndpointSS (DD 48) := by unfold eqEndpointSS; intros; refine lk (g := 48) rfl Try.func21 mslaws_eqEndpointS ?_; apply eqEndpointS_b _ deqEndpointS_134 <;> assumption
theorem deqRolloutS_49 : eqRolloutS (DD 49) := by unfold eqRolloutS; intros; refine lk (g := 49) rfl Try.func22 mslaws_eqRollout ?_; apply eqRollout_b _ deqIntSS_47 <;> assumption
theorem deqDealS_205 : eqDealS (DD 205) := by unfold eqDealS; intros; refine lk (g := 205) rfl Try.func97 mslaws_eqDeal ?_; apply eqDeal_b _ deqIntSS_47 <;> assumption
theorem deqDialedS_135 : eqDialedS (DD 135) := by unfold eqDialedS; intros; refine lk (g := 135) rfl Try.func55 mslaws_eqDialed ?_; apply eqDialed_b _ deqDealS_205 deqIntSS_47 <;> assumption
theorem deqDialedSS_50 : eqDialedSS (DD 50) := by unfold eqDialedSS; intros; refine lk (g := 50) rfl Try.func33 mslaws_eqDialedS ?_; apply eqDialedS_b _ deqDialedS_135 <;> assumption
theorem deqLoggedS_136 : eqLoggedS (DD 136) := by unfold eqLoggedS; intros; refine lk (g := 136) rfl Try.func56 mslaws_eqLogged ?_; apply eqLogged_b _ deqDialedS_135 <;> assumption
theorem deqLoggedSS_51 : eqLoggedSS (DD 51) := by unfold eqLoggedSS; intros; refine lk (g := 51) rfl Try.func34 mslaws_eqLoggedS ?_; apply eqLoggedS_b _ deqLoggedS_136 <;> assumption
theorem deqWorldS_11 : eqWorldS (DD 11) := by unfold eqWorldS; intros; refine lk (g := 11) rfl Try.func10 mslaws_eqWorld ?_; apply eqWorld_b _ deqIntSS_47 deqEndpointSS_48 deqRolloutS_49 deqDialedSS_50 deqLoggedSS_51 <;> assumption
theorem dmarkIntSS_52 : markIntSS (DD 52) := by unfold markIntSS; intros; refine lk (g := 52) rfl Try.func12 mslaws_markIntS ?_; apply markIntS_b _  <;> assumption
theorem dmarkBoxSS_137 : markBoxSS (DD 137) := by unfold markBoxSS; intros; refine lk (g := 137) rfl Try.func44 mslaws_markBoxS ?_; apply markBoxS_b _ dmarkIntSS_52 <;> assumption
theorem dmarkEndpointSS_53 : markEndpointSS (DD 53) := by unfold markEndpointSS; intros; refine lk (g := 53) rfl Try.func23 mslaws_markEndpointS ?_; apply markEndpointS_b _ dmarkIntSS_52 dmarkBoxSS_137 <;> assumption
theorem dmarkRolloutS_54 : markRolloutS (DD 54) := by unfold markRolloutS; intros; refine lk (g := 54) rfl Try.func24 mslaws_markRollout ?_; apply markRollout_b _ dmarkIntSS_52 <;> assumption
theorem dmarkDialedSS_55 : markDialedSS (DD 55) := by unfold markDialedSS; intros; refine lk (g := 55) rfl Try.func35 mslaws_markDialedS ?_; apply markDialedS_b _ dmarkIntSS_52 <;> assumption
theorem dmarkLoggedSS_56 : markLoggedSS (DD 56) := by unfold markLoggedSS; intros; refine lk (g := 56) rfl Try.func36 mslaws_markLoggedS ?_; apply markLoggedS_b _ dmarkIntSS_52 <;> assumption
theorem dmarkWorldS_12 : markWorldS (DD 12) := by unfold markWorldS; intros; refine lk (g := 12) rfl Try.func11 mslaws_markWorld ?_; apply markWorld_b _ dmarkIntSS_52 dmarkEndpointSS_53 dmarkRolloutS_54 dmarkDialedSS_55 dmarkLoggedSS_56 <;> assumption
theorem dheldIntSS_57 : heldIntSS (DD 57) := by unfold heldIntSS; intros; refine lk (g := 57) rfl Try.func13 mslaws_heldIntS ?_; apply heldIntS_b _  <;> assumption
theorem dFnExactHardEndsS_437 : FnExactHardEndsS (DD 437) := by unfold FnExactHardEndsS; intros; refine lk (g := 437) rfl Try.func3 mslaws_FnExactHardEnds ?_; apply FnExactHardEnds_b _ dHardEndsS_84 dHardEndsS_129 dszWorldS_7 dtoWorldS_8 deqIntSS_47 deqWorldS_11 dmarkWorldS_12 dmarkIntSS_52 dheldIntSS_57 <;> assumption
theorem den (av : List V) (h : ArgsV [tyWorld] av) : DD 437 av [] (B true) [] := by
  obtain ⟨v0, r0, h0, hr0, rfl⟩ := h
  obtain ⟨x0, rfl, l0, w0⟩ := argWorld h0
  have z : r0 = [] := hr0
  subst z
  apply dFnExactHardEndsS_437 <;> assumption
end Go.Eng.T

