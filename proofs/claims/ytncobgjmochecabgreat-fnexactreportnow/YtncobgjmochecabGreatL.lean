/- Own work: part 46 of the proof of FnExactReportNow. -/
import Derived.Test.YtncobgjmochecabGreatP45
import Derived.Test.YtncobgjmochecabGreatProg
import Derived.KernelRfl
namespace Go.Eng.T
open Go.Proofs
def fidL : List (Option Nat) := [none, none, none, none, none, none, none, some 5, some 7, none, none, some 10, some 11, none, none, none, some 25, some 26, some 27, some 28, some 29, none, none, none, none, none, none, none, none, none, none, some 32, some 33, some 34, some 35, some 36, none, none, none, none, none, none, none, none, none, none, none, some 9, some 39, some 40, some 41, some 42, some 12, some 43, some 44, some 45, some 46, some 13, none, none, none, none, some 81, some 82, some 83, none, none, none, none, none, none, some 85, none, none, none, none, none, none, none, none, none, none, none, none, none, none, some 31, none, none, none, none, none, some 86, none, none, none, none, some 6, some 87, some 88, some 89, none, none, none, none, none, none, none, none, none, none, none, none, none, some 65, none, none, some 71, none, some 91, none, none, none, none, none, some 8, none, none, none, none, some 38, none, none, none, some 92, some 93, some 94, some 95, none, some 121, some 122, none, none, none, none, none, none, none, none, none, none, none, some 151, none, none, none, none, none, none, none, none, none, none, none, none, some 123, some 158, none, some 141, some 30, some 124, some 125, none, none, none, none, none, none, none, none, none, none, none, some 109, none, none, some 127, none, some 64, some 145, some 69, some 37, none, none, none, none, none, none, none, none, none, none, none, none, some 128, some 129, some 140, some 137, some 152, none, none, none, none, none, none, none, none, some 167, none, none, none, none, some 143, some 142, some 157, some 84, some 144, none, none, none, none, none, some 66, some 104, none, some 58, none, none, none, some 62, some 146, none, some 112, some 90, none, none, none, none, none, some 147, some 150, none, none, none, none, none, some 184, none, some 191, none, some 159, none, none, none, none, none, some 133, some 132, none, none, some 106, some 108, some 107, some 161, some 160, some 126, none, none, none, some 134, none, none, none, none, none, some 168, some 172, none, none, none, none, none, some 185, some 186, some 187, some 203, some 204, some 206, some 205, none, none, some 170, none, none, none, none, none, none, some 178, some 179, none, some 181, some 182, none, none, none, none, none, some 202, none, some 201, some 209, none, none, none, some 211, some 213, some 212, none, none, none, some 193, none, none, none, none, none, none, none, none, none, none, none, none, none, none, none, none, none, none, some 210, some 215, some 214, none, none, none, none, none, none, none, none, none, none, none, none, none, none, none, none, none, none, none, none, none, none, none, none, none, none, none, none, none, none, none, none, none, none, none, none, some 110, none, none, none, none, none, none, none, none, none, none, none, none, none, none, some 148, none, some 135, none, none, none, none, none, none, none, none, none, none, none, none, none, none, none, none, none, none, none, none, none, none, none, none, none, none, none, none, none, none, none, none, none, none, none, none, none, none, none, none, some 3, none, none, none, none, none, none, none, none, none, none, none, none, none, none, none, none, none, none, none, none, none, none, none, none, none, none, none, none, none, none, none, none, none, none, none, none, none, none, none, none, none, none, none, none, none, none, none, none, none, none, none, none, none, none, none, none, none, none, none, none, none, none, none]
def fid : Nat → Option FuncId := fun g => fidL.getD g none
theorem hmix : Tryz.prog.follows .mixedOrders = true := by kernel_rfl
theorem hFl : fidL.all (fun o => match o with | some f => okF Tryz.prog f | none => true) = true := by kernel_rfl
theorem hF : ∀ g f, fid g = some f → okF Tryz.prog f = true := by
  intro g f h
  have := List.all_eq_true.1 hFl (some f) (by
    unfold fid at h
    rw [List.getD_eq_getElem?_getD] at h
    cases hg : fidL[g]? with
    | none => simp [hg] at h
    | some o => simp [hg] at h; subst h; exact List.mem_of_getElem? hg)
  exact this
abbrev G0 : Gl := ⟨fun _ => False, fun _ => none⟩
abbrev DD : Dn := Den Tryz.prog fid G0
theorem lk {g : Nat} {f : FuncId} {fn : Func} {st : List Tmp} {sf : SFn} (hg : fid g = some f) (hfn : Tryz.prog.funcs[f]? = some fn) (hm : mFn Tryz.prog fid st sf fn = true) {a : List V} {gi : List O} {r : V} {o : List O}
    (h : Body DD sf a gi r o) : DD g a gi r o :=
  fn_sound hmix (fun _ _ _ _ _ h => h) hF (fun id hid => by rw [hg] at hid; cases hid; exact hfn) hm h
theorem msspec_l1In : mFn Tryz.prog fid sspec_l1In_t sspec_l1In Tryz.f85 = true := by kernel_rfl
theorem msspec_IsReserved : mFn Tryz.prog fid sspec_IsReserved_t sspec_IsReserved Tryz.f150 = true := by kernel_rfl
theorem msspec_l9Byte : mFn Tryz.prog fid sspec_l9Byte_t sspec_l9Byte Tryz.f167 = true := by kernel_rfl
theorem msspec_IsBox : mFn Tryz.prog fid sspec_IsBox_t sspec_IsBox Tryz.f151 = true := by kernel_rfl
theorem msspec_AreVersions : mFn Tryz.prog fid sspec_AreVersions_t sspec_AreVersions Tryz.f152 = true := by kernel_rfl
theorem msspec_IsEndpoint : mFn Tryz.prog fid sspec_IsEndpoint_t sspec_IsEndpoint Tryz.f137 = true := by kernel_rfl
theorem msspec_PlainHello : mFn Tryz.prog fid sspec_PlainHello_t sspec_PlainHello Tryz.f184 = true := by kernel_rfl
theorem msspec_ExtOf : mFn Tryz.prog fid sspec_ExtOf_t sspec_ExtOf Tryz.f179 = true := by kernel_rfl
theorem msspec_AreExts : mFn Tryz.prog fid sspec_AreExts_t sspec_AreExts Tryz.f182 = true := by kernel_rfl
theorem msspec_IsHello : mFn Tryz.prog fid sspec_IsHello_t sspec_IsHello Tryz.f168 = true := by kernel_rfl
theorem msspec_TagsOf : mFn Tryz.prog fid sspec_TagsOf_t sspec_TagsOf Tryz.f178 = true := by kernel_rfl
theorem msspec_l9Has : mFn Tryz.prog fid sspec_l9Has_t sspec_l9Has Tryz.f158 = true := by kernel_rfl
theorem msspec_KnownOf : mFn Tryz.prog fid sspec_KnownOf_t sspec_KnownOf Tryz.f193 = true := by kernel_rfl
theorem msspec_l11Copy : mFn Tryz.prog fid sspec_l11Copy_t sspec_l11Copy Tryz.f181 = true := by kernel_rfl
theorem msspec_l18Hello : mFn Tryz.prog fid sspec_l18Hello_t sspec_l18Hello Tryz.f170 = true := by kernel_rfl
theorem msspec_PassBox : mFn Tryz.prog fid sspec_PassBox_t sspec_PassBox Tryz.f191 = true := by kernel_rfl
theorem msspec_PassPath : mFn Tryz.prog fid sspec_PassPath_t sspec_PassPath Tryz.f172 = true := by kernel_rfl
theorem msspec_IsOpenPath : mFn Tryz.prog fid sspec_IsOpenPath_t sspec_IsOpenPath Tryz.f159 = true := by kernel_rfl
theorem msspec_LostVersions : mFn Tryz.prog fid sspec_LostVersions_t sspec_LostVersions Tryz.f143 = true := by kernel_rfl
theorem msspec_l21Left : mFn Tryz.prog fid sspec_l21Left_t sspec_l21Left Tryz.f142 = true := by kernel_rfl
theorem msspec_CommonOf : mFn Tryz.prog fid sspec_CommonOf_t sspec_CommonOf Tryz.f157 = true := by kernel_rfl
theorem msspec_BestCommon : mFn Tryz.prog fid sspec_BestCommon_t sspec_BestCommon Tryz.f141 = true := by kernel_rfl
theorem msspec_BestFor : mFn Tryz.prog fid sspec_BestFor_t sspec_BestFor Tryz.f123 = true := by kernel_rfl
theorem msspec_BestNow : mFn Tryz.prog fid sspec_BestNow_t sspec_BestNow Tryz.f86 = true := by kernel_rfl
theorem msspec_VersionCounts : mFn Tryz.prog fid sspec_VersionCounts_t sspec_VersionCounts Tryz.f31 = true := by kernel_rfl
theorem msspec_AreCounts : mFn Tryz.prog fid sspec_AreCounts_t sspec_AreCounts Tryz.f84 = true := by kernel_rfl
theorem msspec_HideSmall : mFn Tryz.prog fid sspec_HideSmall_t sspec_HideSmall Tryz.f30 = true := by kernel_rfl
theorem msspec_ReportNow : mFn Tryz.prog fid sspec_ReportNow_t sspec_ReportNow Tryz.f6 = true := by kernel_rfl
theorem msimpl_InRange : mFn Tryz.prog fid simpl_InRange_t simpl_InRange Tryz.f65 = true := by kernel_rfl
theorem msimpl_hasEnd : mFn Tryz.prog fid simpl_hasEnd_t simpl_hasEnd Tryz.f71 = true := by kernel_rfl
theorem msimpl_AreVersions : mFn Tryz.prog fid simpl_AreVersions_t simpl_AreVersions Tryz.f66 = true := by kernel_rfl
theorem msimpl_areNumbers_1 : mFn Tryz.prog fid simpl_areNumbers_1_t simpl_areNumbers_1 Tryz.f133 = true := by kernel_rfl
theorem msslices_IndexFunc___int_int_ : mFn Tryz.prog fid sslices_IndexFunc___int_int__t sslices_IndexFunc___int_int_ Tryz.f148 = true := by kernel_rfl
theorem msslices_ContainsFunc___int_int_ : mFn Tryz.prog fid sslices_ContainsFunc___int_int__t sslices_ContainsFunc___int_int_ Tryz.f132 = true := by kernel_rfl
theorem msimpl_areNumbers : mFn Tryz.prog fid simpl_areNumbers_t simpl_areNumbers Tryz.f104 = true := by kernel_rfl
theorem msimpl_areTags : mFn Tryz.prog fid simpl_areTags_t simpl_areTags Tryz.f58 = true := by kernel_rfl
theorem msimpl_IsReserved : mFn Tryz.prog fid simpl_IsReserved_t simpl_IsReserved Tryz.f134 = true := by kernel_rfl
theorem msimpl_IsHardened : mFn Tryz.prog fid simpl_IsHardened_t simpl_IsHardened Tryz.f106 = true := by kernel_rfl
theorem msimpl_IsBox : mFn Tryz.prog fid simpl_IsBox_t simpl_IsBox Tryz.f109 = true := by kernel_rfl
theorem msimpl_IsEndpoint_1 : mFn Tryz.prog fid simpl_IsEndpoint_1_t simpl_IsEndpoint_1 Tryz.f108 = true := by kernel_rfl
theorem msslices_IndexFunc___impl_Box_impl_Box_ : mFn Tryz.prog fid sslices_IndexFunc___impl_Box_impl_Box__t sslices_IndexFunc___impl_Box_impl_Box_ Tryz.f135 = true := by kernel_rfl
theorem msslices_ContainsFunc___impl_Box_impl_Box_ : mFn Tryz.prog fid sslices_ContainsFunc___impl_Box_impl_Box__t sslices_ContainsFunc___impl_Box_impl_Box_ Tryz.f107 = true := by kernel_rfl
theorem msimpl_IsEndpoint : mFn Tryz.prog fid simpl_IsEndpoint_t simpl_IsEndpoint Tryz.f62 = true := by kernel_rfl
theorem msimpl_PlainHello : mFn Tryz.prog fid simpl_PlainHello_t simpl_PlainHello Tryz.f161 = true := by kernel_rfl
theorem msimpl_ExtOf_1 : mFn Tryz.prog fid simpl_ExtOf_1_t simpl_ExtOf_1 Tryz.f215 = true := by kernel_rfl
theorem msslices_IndexFunc___impl_Ext_impl_Ext_ : mFn Tryz.prog fid sslices_IndexFunc___impl_Ext_impl_Ext__t sslices_IndexFunc___impl_Ext_impl_Ext_ Tryz.f214 = true := by kernel_rfl
theorem msimpl_ExtOf : mFn Tryz.prog fid simpl_ExtOf_t simpl_ExtOf Tryz.f209 = true := by kernel_rfl
theorem msimpl_AreExts : mFn Tryz.prog fid simpl_AreExts_t simpl_AreExts Tryz.f201 = true := by kernel_rfl
theorem msimpl_IsHello : mFn Tryz.prog fid simpl_IsHello_t simpl_IsHello Tryz.f185 = true := by kernel_rfl
theorem msimpl_copyExts_1 : mFn Tryz.prog fid simpl_copyExts_1_t simpl_copyExts_1 Tryz.f210 = true := by kernel_rfl
theorem msimpl_keptExts : mFn Tryz.prog fid simpl_keptExts_t simpl_keptExts Tryz.f205 = true := by kernel_rfl
theorem msimpl_copyExts : mFn Tryz.prog fid simpl_copyExts_t simpl_copyExts Tryz.f202 = true := by kernel_rfl
theorem msimpl_copyHello : mFn Tryz.prog fid simpl_copyHello_t simpl_copyHello Tryz.f186 = true := by kernel_rfl
theorem msslices_Index___int_int_ : mFn Tryz.prog fid sslices_Index___int_int__t sslices_Index___int_int_ Tryz.f110 = true := by kernel_rfl
theorem msslices_Contains___int_int_ : mFn Tryz.prog fid sslices_Contains___int_int__t sslices_Contains___int_int_ Tryz.f64 = true := by kernel_rfl
theorem msimpl_loses_1 : mFn Tryz.prog fid simpl_loses_1_t simpl_loses_1 Tryz.f213 = true := by kernel_rfl
theorem msslices_ContainsFunc___impl_Ext_impl_Ext_ : mFn Tryz.prog fid sslices_ContainsFunc___impl_Ext_impl_Ext__t sslices_ContainsFunc___impl_Ext_impl_Ext_ Tryz.f212 = true := by kernel_rfl
theorem msimpl_loses : mFn Tryz.prog fid simpl_loses_t simpl_loses Tryz.f203 = true := by kernel_rfl
theorem msimpl_PassBox_1 : mFn Tryz.prog fid simpl_PassBox_1_t simpl_PassBox_1 Tryz.f206 = true := by kernel_rfl
theorem msimpl_PassBox : mFn Tryz.prog fid simpl_PassBox_t simpl_PassBox Tryz.f187 = true := by kernel_rfl
theorem msimpl_PassPath : mFn Tryz.prog fid simpl_PassPath_t simpl_PassPath Tryz.f160 = true := by kernel_rfl
theorem msimpl_LostVersions : mFn Tryz.prog fid simpl_LostVersions_t simpl_LostVersions Tryz.f146 = true := by kernel_rfl
theorem msimpl_without : mFn Tryz.prog fid simpl_without_t simpl_without Tryz.f145 = true := by kernel_rfl
theorem msimpl_CommonOf : mFn Tryz.prog fid simpl_CommonOf_t simpl_CommonOf Tryz.f112 = true := by kernel_rfl
theorem msimpl_BestCommon : mFn Tryz.prog fid simpl_BestCommon_t simpl_BestCommon Tryz.f69 = true := by kernel_rfl
theorem msimpl_BestFor : mFn Tryz.prog fid simpl_BestFor_t simpl_BestFor Tryz.f127 = true := by kernel_rfl
theorem msimpl_BestNow : mFn Tryz.prog fid simpl_BestNow_t simpl_BestNow Tryz.f91 = true := by kernel_rfl
theorem msimpl_VersionCounts : mFn Tryz.prog fid simpl_VersionCounts_t simpl_VersionCounts Tryz.f38 = true := by kernel_rfl
theorem msimpl_AreCounts : mFn Tryz.prog fid simpl_AreCounts_t simpl_AreCounts Tryz.f126 = true := by kernel_rfl
theorem msimpl_canHide : mFn Tryz.prog fid simpl_canHide_t simpl_canHide Tryz.f90 = true := by kernel_rfl
theorem msimpl_HideSmall : mFn Tryz.prog fid simpl_HideSmall_t simpl_HideSmall Tryz.f37 = true := by kernel_rfl
theorem msimpl_ReportNow : mFn Tryz.prog fid simpl_ReportNow_t simpl_ReportNow Tryz.f8 = true := by kernel_rfl
theorem mslaws_szIntS : mFn Tryz.prog fid slaws_szIntS_t slaws_szIntS Tryz.f25 = true := by kernel_rfl
theorem mslaws_szBox : mFn Tryz.prog fid slaws_szBox_t slaws_szBox Tryz.f140 = true := by kernel_rfl
theorem mslaws_szBoxS : mFn Tryz.prog fid slaws_szBoxS_t slaws_szBoxS Tryz.f121 = true := by kernel_rfl
theorem mslaws_szEndpoint : mFn Tryz.prog fid slaws_szEndpoint_t slaws_szEndpoint Tryz.f81 = true := by kernel_rfl
theorem mslaws_szEndpointS : mFn Tryz.prog fid slaws_szEndpointS_t slaws_szEndpointS Tryz.f26 = true := by kernel_rfl
theorem mslaws_szRollout : mFn Tryz.prog fid slaws_szRollout_t slaws_szRollout Tryz.f27 = true := by kernel_rfl
theorem mslaws_szDeal : mFn Tryz.prog fid slaws_szDeal_t slaws_szDeal Tryz.f122 = true := by kernel_rfl
theorem mslaws_szDialed : mFn Tryz.prog fid slaws_szDialed_t slaws_szDialed Tryz.f82 = true := by kernel_rfl
theorem mslaws_szDialedS : mFn Tryz.prog fid slaws_szDialedS_t slaws_szDialedS Tryz.f28 = true := by kernel_rfl
theorem mslaws_szLogged : mFn Tryz.prog fid slaws_szLogged_t slaws_szLogged Tryz.f83 = true := by kernel_rfl
theorem mslaws_szLoggedS : mFn Tryz.prog fid slaws_szLoggedS_t slaws_szLoggedS Tryz.f29 = true := by kernel_rfl
theorem mslaws_szWorld : mFn Tryz.prog fid slaws_szWorld_t slaws_szWorld Tryz.f5 = true := by kernel_rfl
theorem mslaws_toIntS : mFn Tryz.prog fid slaws_toIntS_t slaws_toIntS Tryz.f32 = true := by kernel_rfl
theorem mslaws_toBox : mFn Tryz.prog fid slaws_toBox_t slaws_toBox Tryz.f144 = true := by kernel_rfl
theorem mslaws_toBoxS : mFn Tryz.prog fid slaws_toBoxS_t slaws_toBoxS Tryz.f124 = true := by kernel_rfl
theorem mslaws_toEndpoint : mFn Tryz.prog fid slaws_toEndpoint_t slaws_toEndpoint Tryz.f87 = true := by kernel_rfl
theorem mslaws_toEndpointS : mFn Tryz.prog fid slaws_toEndpointS_t slaws_toEndpointS Tryz.f33 = true := by kernel_rfl
theorem mslaws_toRollout : mFn Tryz.prog fid slaws_toRollout_t slaws_toRollout Tryz.f34 = true := by kernel_rfl
theorem mslaws_toDeal : mFn Tryz.prog fid slaws_toDeal_t slaws_toDeal Tryz.f125 = true := by kernel_rfl
theorem mslaws_toDialed : mFn Tryz.prog fid slaws_toDialed_t slaws_toDialed Tryz.f88 = true := by kernel_rfl
theorem mslaws_toDialedS : mFn Tryz.prog fid slaws_toDialedS_t slaws_toDialedS Tryz.f35 = true := by kernel_rfl
theorem mslaws_toLogged : mFn Tryz.prog fid slaws_toLogged_t slaws_toLogged Tryz.f89 = true := by kernel_rfl
theorem mslaws_toLoggedS : mFn Tryz.prog fid slaws_toLoggedS_t slaws_toLoggedS Tryz.f36 = true := by kernel_rfl
theorem mslaws_toWorld : mFn Tryz.prog fid slaws_toWorld_t slaws_toWorld Tryz.f7 = true := by kernel_rfl
theorem mslaws_eqIntS : mFn Tryz.prog fid slaws_eqIntS_t slaws_eqIntS Tryz.f9 = true := by kernel_rfl
theorem mslaws_eqBox : mFn Tryz.prog fid slaws_eqBox_t slaws_eqBox Tryz.f147 = true := by kernel_rfl
theorem mslaws_eqBoxS : mFn Tryz.prog fid slaws_eqBoxS_t slaws_eqBoxS Tryz.f128 = true := by kernel_rfl
theorem mslaws_eqEndpoint : mFn Tryz.prog fid slaws_eqEndpoint_t slaws_eqEndpoint Tryz.f92 = true := by kernel_rfl
theorem mslaws_eqEndpointS : mFn Tryz.prog fid slaws_eqEndpointS_t slaws_eqEndpointS Tryz.f39 = true := by kernel_rfl
theorem mslaws_eqRollout : mFn Tryz.prog fid slaws_eqRollout_t slaws_eqRollout Tryz.f40 = true := by kernel_rfl
theorem mslaws_eqDeal : mFn Tryz.prog fid slaws_eqDeal_t slaws_eqDeal Tryz.f129 = true := by kernel_rfl
theorem mslaws_eqDialed : mFn Tryz.prog fid slaws_eqDialed_t slaws_eqDialed Tryz.f93 = true := by kernel_rfl
theorem mslaws_eqDialedS : mFn Tryz.prog fid slaws_eqDialedS_t slaws_eqDialedS Tryz.f41 = true := by kernel_rfl
theorem mslaws_eqLogged : mFn Tryz.prog fid slaws_eqLogged_t slaws_eqLogged Tryz.f94 = true := by kernel_rfl
theorem mslaws_eqLoggedS : mFn Tryz.prog fid slaws_eqLoggedS_t slaws_eqLoggedS Tryz.f42 = true := by kernel_rfl
theorem mslaws_eqWorld : mFn Tryz.prog fid slaws_eqWorld_t slaws_eqWorld Tryz.f10 = true := by kernel_rfl
theorem mslaws_markIntS : mFn Tryz.prog fid slaws_markIntS_t slaws_markIntS Tryz.f12 = true := by kernel_rfl
theorem mslaws_markBoxS : mFn Tryz.prog fid slaws_markBoxS_t slaws_markBoxS Tryz.f95 = true := by kernel_rfl
theorem mslaws_markEndpointS : mFn Tryz.prog fid slaws_markEndpointS_t slaws_markEndpointS Tryz.f43 = true := by kernel_rfl
theorem mslaws_markRollout : mFn Tryz.prog fid slaws_markRollout_t slaws_markRollout Tryz.f44 = true := by kernel_rfl
theorem mslaws_markDialedS : mFn Tryz.prog fid slaws_markDialedS_t slaws_markDialedS Tryz.f45 = true := by kernel_rfl
theorem mslaws_markLoggedS : mFn Tryz.prog fid slaws_markLoggedS_t slaws_markLoggedS Tryz.f46 = true := by kernel_rfl
theorem mslaws_markWorld : mFn Tryz.prog fid slaws_markWorld_t slaws_markWorld Tryz.f11 = true := by kernel_rfl
theorem mslaws_heldIntS : mFn Tryz.prog fid slaws_heldIntS_t slaws_heldIntS Tryz.f13 = true := by kernel_rfl
theorem mslaws_FnExactReportNow : mFn Tryz.prog fid slaws_FnExactReportNow_t slaws_FnExactReportNow Tryz.f3 = true := by kernel_rfl
theorem dInS_71 : InS (DD 71) := by unfold InS; intros; refine lk (g := 71) rfl Tryz.func85 msspec_l1In ?_; apply l1In_b _  <;> assumption
theorem dIsReservedS_250 : IsReservedS (DD 250) := by unfold IsReservedS; intros; refine lk (g := 250) rfl Tryz.func150 msspec_IsReserved ?_; apply sIsReserved_b _ dInS_71 <;> assumption
theorem dl9ByteS_217 : l9ByteS (DD 217) := by unfold l9ByteS; intros; refine lk (g := 217) rfl Tryz.func167 msspec_l9Byte ?_; apply l9Byte_b _ dInS_71 <;> assumption
theorem dIsBoxS_152 : IsBoxS (DD 152) := by unfold IsBoxS; intros; refine lk (g := 152) rfl Tryz.func151 msspec_IsBox ?_; apply sIsBox_b _ dInS_71 dl9ByteS_217 <;> assumption
theorem dAreVersionsS_208 : AreVersionsS (DD 208) := by unfold AreVersionsS; intros; refine lk (g := 208) rfl Tryz.func152 msspec_AreVersions ?_; apply sAreVersions_b _ dInS_71 <;> assumption
theorem dIsEndpointS_207 : IsEndpointS (DD 207) := by unfold IsEndpointS; intros; refine lk (g := 207) rfl Tryz.func137 msspec_IsEndpoint ?_; apply sIsEndpoint_b _ dInS_71 dIsReservedS_250 dIsBoxS_152 dAreVersionsS_208 <;> assumption
theorem dPlainHelloS_256 : PlainHelloS (DD 256) := by unfold PlainHelloS; intros; refine lk (g := 256) rfl Tryz.func184 msspec_PlainHello ?_; apply sPlainHello_b _  <;> assumption
theorem dExtOfS_309 : ExtOfS (DD 309) := by unfold ExtOfS; intros; refine lk (g := 309) rfl Tryz.func179 msspec_ExtOf ?_; apply sExtOf_b _  <;> assumption
theorem dAreExtsS_312 : AreExtsS (DD 312) := by unfold AreExtsS; intros; refine lk (g := 312) rfl Tryz.func182 msspec_AreExts ?_; apply sAreExts_b _ dInS_71 dl9ByteS_217 dExtOfS_309 <;> assumption
theorem dIsHelloS_285 : IsHelloS (DD 285) := by unfold IsHelloS; intros; refine lk (g := 285) rfl Tryz.func168 msspec_IsHello ?_; apply sIsHello_b _ dAreVersionsS_208 dAreExtsS_312 <;> assumption
theorem dTagsOfS_308 : TagsOfS (DD 308) := by unfold TagsOfS; intros; refine lk (g := 308) rfl Tryz.func178 msspec_TagsOf ?_; apply sTagsOf_b _  <;> assumption
theorem dHasS_166 : HasS (DD 166) := by unfold HasS; intros; refine lk (g := 166) rfl Tryz.func158 msspec_l9Has ?_; apply l9Has_b _  <;> assumption
theorem dKnownOfS_331 : KnownOfS (DD 331) := by unfold KnownOfS; intros; refine lk (g := 331) rfl Tryz.func193 msspec_KnownOf ?_; apply sKnownOf_b _ dHasS_166 <;> assumption
theorem dcpExtsS_311 : cpExtsS (DD 311) := by unfold cpExtsS; intros; refine lk (g := 311) rfl Tryz.func181 msspec_l11Copy ?_; apply l11Copy_b _ dTagsOfS_308 dKnownOfS_331 <;> assumption
theorem dcpHelloS_301 : cpHelloS (DD 301) := by unfold cpHelloS; intros; refine lk (g := 301) rfl Tryz.func170 msspec_l18Hello ?_; apply l18Hello_b _ dcpExtsS_311 <;> assumption
theorem dPassBoxS_258 : PassBoxS (DD 258) := by unfold PassBoxS; intros; refine lk (g := 258) rfl Tryz.func191 msspec_PassBox ?_; apply sPassBox_b _ dIsBoxS_152 dIsHelloS_285 dHasS_166 dInS_71 <;> assumption
theorem dPassPathS_286 : PassPathS (DD 286) := by unfold PassPathS; intros; refine lk (g := 286) rfl Tryz.func172 msspec_PassPath ?_; apply sPassPath_b _ dIsHelloS_285 dcpHelloS_301 dPassBoxS_258 <;> assumption
theorem dIsOpenPathS_260 : IsOpenPathS (DD 260) := by unfold IsOpenPathS; intros; refine lk (g := 260) rfl Tryz.func159 msspec_IsOpenPath ?_; apply sIsOpenPath_b _ dAreVersionsS_208 dPlainHelloS_256 dPassPathS_286 <;> assumption
theorem dLostVersionsS_222 : LostVersionsS (DD 222) := by unfold LostVersionsS; intros; refine lk (g := 222) rfl Tryz.func143 msspec_LostVersions ?_; apply sLostVersions_b _ dAreVersionsS_208 dIsOpenPathS_260 <;> assumption
theorem dLeftS_223 : LeftS (DD 223) := by unfold LeftS; intros; refine lk (g := 223) rfl Tryz.func142 msspec_l21Left ?_; apply l21Left_b _ dHasS_166 <;> assumption
theorem dCommonOfS_224 : CommonOfS (DD 224) := by unfold CommonOfS; intros; refine lk (g := 224) rfl Tryz.func157 msspec_CommonOf ?_; apply sCommonOf_b _ dHasS_166 <;> assumption
theorem dBestCommonS_168 : BestCommonS (DD 168) := by unfold BestCommonS; intros; refine lk (g := 168) rfl Tryz.func141 msspec_BestCommon ?_; apply sBestCommon_b _ dCommonOfS_224 dAreVersionsS_208 <;> assumption
theorem dBestForS_165 : BestForS (DD 165) := by unfold BestForS; intros; refine lk (g := 165) rfl Tryz.func123 msspec_BestFor ?_; apply sBestFor_b _ dIsEndpointS_207 dLostVersionsS_222 dLeftS_223 dBestCommonS_168 <;> assumption
theorem dBestNowS_92 : BestNowS (DD 92) := by unfold BestNowS; intros; refine lk (g := 92) rfl Tryz.func86 msspec_BestNow ?_; apply sBestNow_b _ dInS_71 dBestForS_165 <;> assumption
theorem dVersionCountsS_86 : VersionCountsS (DD 86) := by unfold VersionCountsS; intros; refine lk (g := 86) rfl Tryz.func31 msspec_VersionCounts ?_; apply sVersionCounts_b _ dBestNowS_92 <;> assumption
theorem dAreCountsS_225 : AreCountsS (DD 225) := by unfold AreCountsS; intros; refine lk (g := 225) rfl Tryz.func84 msspec_AreCounts ?_; apply sAreCounts_b _ dInS_71 <;> assumption
theorem dHideSmallS_169 : HideSmallS (DD 169) := by unfold HideSmallS; intros; refine lk (g := 169) rfl Tryz.func30 msspec_HideSmall ?_; apply sHideSmall_b _ dAreCountsS_225 dInS_71 <;> assumption
theorem dReportNowS_97 : ReportNowS (DD 97) := by unfold ReportNowS; intros; refine lk (g := 97) rfl Tryz.func6 msspec_ReportNow ?_; apply sReportNow_b _ dVersionCountsS_86 dHideSmallS_169 <;> assumption
theorem dInS_114 : InS (DD 114) := by unfold InS; intros; refine lk (g := 114) rfl Tryz.func65 msimpl_InRange ?_; apply InRange_b _  <;> assumption
theorem dhasEndS_117 : hasEndS (DD 117) := by unfold hasEndS; intros; refine lk (g := 117) rfl Tryz.func71 msimpl_hasEnd ?_; apply hasEnd_b _ dInS_114 <;> assumption
theorem dAreVersionsS_232 : AreVersionsS (DD 232) := by unfold AreVersionsS; intros; refine lk (g := 232) rfl Tryz.func66 msimpl_AreVersions ?_; apply iAreVersions_b _ dInS_114 <;> assumption
theorem dareNumbers1S_266 : areNumbers1S (DD 266) := by unfold areNumbers1S; intros; refine lk (g := 266) rfl Tryz.func133 msimpl_areNumbers_1 ?_; apply areNumbers1_b _ dInS_114 <;> assumption
theorem dIndexFuncS_404 : IndexFuncS DD (DD 404) := by unfold IndexFuncS; intros; refine lk (g := 404) rfl Tryz.func148 msslices_IndexFunc___int_int_ ?_; apply IndexFunc_b _  <;> assumption
theorem dContainsFuncS_267 : ContainsFuncS DD (DD 267) := by unfold ContainsFuncS; intros; refine lk (g := 267) rfl Tryz.func132 msslices_ContainsFunc___int_int_ ?_; apply ContainsFunc_b _ dIndexFuncS_404 <;> assumption
theorem dareNumbersS_233 : areNumbersS (DD 233) := by unfold areNumbersS; intros; refine lk (g := 233) rfl Tryz.func104 msimpl_areNumbers ?_; apply areNumbers_b _ dareNumbers1S_266 dContainsFuncS_267 <;> assumption
theorem dAreTagsS_235 : AreTagsS (DD 235) := by unfold AreTagsS; intros; refine lk (g := 235) rfl Tryz.func58 msimpl_areTags ?_; apply iareTags_b _ dareNumbersS_233 <;> assumption
theorem dIsReservedS_279 : IsReservedS (DD 279) := by unfold IsReservedS; intros; refine lk (g := 279) rfl Tryz.func134 msimpl_IsReserved ?_; apply iIsReserved_b _ dInS_114 <;> assumption
theorem dIsHardenedS_270 : IsHardenedS (DD 270) := by unfold IsHardenedS; intros; refine lk (g := 270) rfl Tryz.func106 msimpl_IsHardened ?_; apply iIsHardened_b _ dIsReservedS_279 dContainsFuncS_267 <;> assumption
theorem dIsBoxS_183 : IsBoxS (DD 183) := by unfold IsBoxS; intros; refine lk (g := 183) rfl Tryz.func109 msimpl_IsBox ?_; apply iIsBox_b _ dInS_114 dareNumbersS_233 <;> assumption
theorem dIsEndpoint1S_271 : IsEndpoint1S (DD 271) := by unfold IsEndpoint1S; intros; refine lk (g := 271) rfl Tryz.func108 msimpl_IsEndpoint_1 ?_; apply IsEndpoint1_b _ dIsBoxS_183 <;> assumption
theorem dIndexFuncBoxS_406 : IndexFuncBoxS DD (DD 406) := by unfold IndexFuncBoxS; intros; refine lk (g := 406) rfl Tryz.func135 msslices_IndexFunc___impl_Box_impl_Box_ ?_; apply IndexFuncBox_b _  <;> assumption
theorem dContainsFuncBoxS_272 : ContainsFuncBoxS DD (DD 272) := by unfold ContainsFuncBoxS; intros; refine lk (g := 272) rfl Tryz.func107 msslices_ContainsFunc___impl_Box_impl_Box_ ?_; apply ContainsFuncBox_b _ dIndexFuncBoxS_406 <;> assumption
theorem dIsEndpointS_239 : IsEndpointS (DD 239) := by unfold IsEndpointS; intros; refine lk (g := 239) rfl Tryz.func62 msimpl_IsEndpoint ?_; apply iIsEndpoint_b _ dAreVersionsS_232 dAreTagsS_235 dIsHardenedS_270 dIsEndpoint1S_271 dContainsFuncBoxS_272 dInS_114 <;> assumption
theorem dPlainHelloS_273 : PlainHelloS (DD 273) := by unfold PlainHelloS; intros; refine lk (g := 273) rfl Tryz.func161 msimpl_PlainHello ?_; apply iPlainHello_b _  <;> assumption
theorem dExtOf1S_351 : ExtOf1S (DD 351) := by unfold ExtOf1S; intros; refine lk (g := 351) rfl Tryz.func215 msimpl_ExtOf_1 ?_; apply ExtOf1_b _  <;> assumption
theorem dIndexFuncExtS_352 : IndexFuncExtS DD (DD 352) := by unfold IndexFuncExtS; intros; refine lk (g := 352) rfl Tryz.func214 msslices_IndexFunc___impl_Ext_impl_Ext_ ?_; apply IndexFuncExt_b _  <;> assumption
theorem dExtOfS_321 : ExtOfS (DD 321) := by unfold ExtOfS; intros; refine lk (g := 321) rfl Tryz.func209 msimpl_ExtOf ?_; apply iExtOf_b _ dExtOf1S_351 dIndexFuncExtS_352 <;> assumption
theorem dAreExtsS_320 : AreExtsS (DD 320) := by unfold AreExtsS; intros; refine lk (g := 320) rfl Tryz.func201 msimpl_AreExts ?_; apply iAreExts_b _ dInS_114 dExtOfS_321 dareNumbersS_233 <;> assumption
theorem dIsHelloS_292 : IsHelloS (DD 292) := by unfold IsHelloS; intros; refine lk (g := 292) rfl Tryz.func185 msimpl_IsHello ?_; apply iIsHello_b _ dAreVersionsS_232 dAreExtsS_320 <;> assumption
theorem dKeepAllS_350 : KeepAllS (DD 350) := by unfold KeepAllS; intros; refine lk (g := 350) rfl Tryz.func210 msimpl_copyExts_1 ?_; apply copyExts1_b _  <;> assumption
theorem dkeptExtsS_298 : keptExtsS DD (DD 298) := by unfold keptExtsS; intros; refine lk (g := 298) rfl Tryz.func205 msimpl_keptExts ?_; apply keptExts_b _  <;> assumption
theorem dcpExtsS_318 : cpExtsS (DD 318) := by unfold cpExtsS; intros; refine lk (g := 318) rfl Tryz.func202 msimpl_copyExts ?_; apply copyExts_b _ dKeepAllS_350 dkeptExtsS_298 <;> assumption
theorem dcpHelloS_293 : cpHelloS (DD 293) := by unfold cpHelloS; intros; refine lk (g := 293) rfl Tryz.func186 msimpl_copyHello ?_; apply copyHello_b _ dcpExtsS_318 <;> assumption
theorem dMaxS_325 : MaxS (DD 325) := max_den (k := 211) rfl (fun b off n c zs w h1 h2 h3 h4 => Tryz.slices_Max_int b off n c zs w h1 h2 h3 h4)
theorem dIndexS_389 : IndexS (DD 389) := by unfold IndexS; intros; refine lk (g := 389) rfl Tryz.func110 msslices_Index___int_int_ ?_; apply Index_b _  <;> assumption
theorem dHasS_188 : HasS (DD 188) := by unfold HasS; intros; refine lk (g := 188) rfl Tryz.func64 msslices_Contains___int_int_ ?_; apply Contains_b _ dIndexS_389 <;> assumption
theorem dloses1S_326 : loses1S (DD 326) := by unfold loses1S; intros; refine lk (g := 326) rfl Tryz.func213 msimpl_loses_1 ?_; apply loses1_b _ dHasS_188 dInS_114 <;> assumption
theorem dContainsFuncExtS_327 : ContainsFuncExtS DD (DD 327) := by unfold ContainsFuncExtS; intros; refine lk (g := 327) rfl Tryz.func212 msslices_ContainsFunc___impl_Ext_impl_Ext_ ?_; apply ContainsFuncExt_b _ dIndexFuncExtS_352 <;> assumption
theorem dlosesS_295 : losesS (DD 295) := by unfold losesS; intros; refine lk (g := 295) rfl Tryz.func203 msimpl_loses ?_; apply loses_b _ dMaxS_325 dloses1S_326 dContainsFuncExtS_327 <;> assumption
theorem dCloneS_296 : CloneS (DD 296) := clone_den (k := 204) rfl (fun n c w => Tryz.slices_Clone_int_nil n c w) (fun a c w => Tryz.slices_Clone_int_zero a c w) (fun b off n c zs w h1 h2 h3 => Tryz.slices_Clone_int b off n c zs w h1 h2 h3)
theorem dPassBox1S_297 : PassBox1S (DD 297) := by unfold PassBox1S; intros; refine lk (g := 297) rfl Tryz.func206 msimpl_PassBox_1 ?_; apply PassBox1_b _ dHasS_188 <;> assumption
theorem dPassBoxS_294 : PassBoxS (DD 294) := by unfold PassBoxS; intros; refine lk (g := 294) rfl Tryz.func187 msimpl_PassBox ?_; apply iPassBox_b _ dIsBoxS_183 dIsHelloS_292 dlosesS_295 dCloneS_296 dPassBox1S_297 dkeptExtsS_298 <;> assumption
theorem dPassPathS_274 : PassPathS (DD 274) := by unfold PassPathS; intros; refine lk (g := 274) rfl Tryz.func160 msimpl_PassPath ?_; apply iPassPath_b _ dIsHelloS_292 dcpHelloS_293 dPassBoxS_294 <;> assumption
theorem dLostVersionsS_240 : LostVersionsS (DD 240) := by unfold LostVersionsS; intros; refine lk (g := 240) rfl Tryz.func146 msimpl_LostVersions ?_; apply iLostVersions_b _ dAreVersionsS_232 dPlainHelloS_273 dPassPathS_274 <;> assumption
theorem dLeftS_189 : LeftS (DD 189) := by unfold LeftS; intros; refine lk (g := 189) rfl Tryz.func145 msimpl_without ?_; apply withoutG_b _ dHasS_188 <;> assumption
theorem dCommonOfS_242 : CommonOfS (DD 242) := by unfold CommonOfS; intros; refine lk (g := 242) rfl Tryz.func112 msimpl_CommonOf ?_; apply iCommonOf_b _ dHasS_188 <;> assumption
theorem dBestCommonS_190 : BestCommonS (DD 190) := by unfold BestCommonS; intros; refine lk (g := 190) rfl Tryz.func69 msimpl_BestCommon ?_; apply iBestCommon_b _ dCommonOfS_242 dAreVersionsS_232 <;> assumption
theorem dBestForS_186 : BestForS (DD 186) := by unfold BestForS; intros; refine lk (g := 186) rfl Tryz.func127 msimpl_BestFor ?_; apply iBestFor_b _ dIsEndpointS_239 dLostVersionsS_240 dLeftS_189 dBestCommonS_190 <;> assumption
theorem dBestNowS_119 : BestNowS (DD 119) := by unfold BestNowS; intros; refine lk (g := 119) rfl Tryz.func91 msimpl_BestNow ?_; apply iBestNow_b _ dhasEndS_117 dBestForS_186 <;> assumption
theorem dVersionCountsS_130 : VersionCountsS (DD 130) := by unfold VersionCountsS; intros; refine lk (g := 130) rfl Tryz.func38 msimpl_VersionCounts ?_; apply iVersionCounts_b _ dBestNowS_119 <;> assumption
theorem dAreCountsS_275 : AreCountsS (DD 275) := by unfold AreCountsS; intros; refine lk (g := 275) rfl Tryz.func126 msimpl_AreCounts ?_; apply iAreCounts_b _ dareNumbersS_233 <;> assumption
theorem dcanHideS_243 : canHideS (DD 243) := by unfold canHideS; intros; refine lk (g := 243) rfl Tryz.func90 msimpl_canHide ?_; apply canHide_b _ dAreCountsS_275 dInS_114 <;> assumption
theorem dHideSmallS_191 : HideSmallS (DD 191) := by unfold HideSmallS; intros; refine lk (g := 191) rfl Tryz.func37 msimpl_HideSmall ?_; apply iHideSmall_b _ dcanHideS_243 <;> assumption
theorem dReportNowS_125 : ReportNowS (DD 125) := by unfold ReportNowS; intros; refine lk (g := 125) rfl Tryz.func8 msimpl_ReportNow ?_; apply iReportNow_b _ dVersionCountsS_130 dHideSmallS_191 <;> assumption
theorem dszIntSS_16 : szIntSS (DD 16) := by unfold szIntSS; intros; refine lk (g := 16) rfl Tryz.func25 mslaws_szIntS ?_; apply szIntS_b _  <;> assumption
theorem dszBoxS_206 : szBoxS (DD 206) := by unfold szBoxS; intros; refine lk (g := 206) rfl Tryz.func140 mslaws_szBox ?_; apply szBox_b _ dszIntSS_16 <;> assumption
theorem dszBoxSS_139 : szBoxSS (DD 139) := by unfold szBoxSS; intros; refine lk (g := 139) rfl Tryz.func121 mslaws_szBoxS ?_; apply szBoxS_b _ dszBoxS_206 <;> assumption
theorem dszEndpointS_62 : szEndpointS (DD 62) := by unfold szEndpointS; intros; refine lk (g := 62) rfl Tryz.func81 mslaws_szEndpoint ?_; apply szEndpoint_b _ dszIntSS_16 dszBoxSS_139 <;> assumption
theorem dszEndpointSS_17 : szEndpointSS (DD 17) := by unfold szEndpointSS; intros; refine lk (g := 17) rfl Tryz.func26 mslaws_szEndpointS ?_; apply szEndpointS_b _ dszEndpointS_62 <;> assumption
theorem dszRolloutS_18 : szRolloutS (DD 18) := by unfold szRolloutS; intros; refine lk (g := 18) rfl Tryz.func27 mslaws_szRollout ?_; apply szRollout_b _ dszIntSS_16 <;> assumption
theorem dszDealS_140 : szDealS (DD 140) := by unfold szDealS; intros; refine lk (g := 140) rfl Tryz.func122 mslaws_szDeal ?_; apply szDeal_b _ dszIntSS_16 <;> assumption
theorem dszDialedS_63 : szDialedS (DD 63) := by unfold szDialedS; intros; refine lk (g := 63) rfl Tryz.func82 mslaws_szDialed ?_; apply szDialed_b _ dszDealS_140 dszIntSS_16 <;> assumption
theorem dszDialedSS_19 : szDialedSS (DD 19) := by unfold szDialedSS; intros; refine lk (g := 19) rfl Tryz.func28 mslaws_szDialedS ?_; apply szDialedS_b _ dszDialedS_63 <;> assumption
theorem dszLoggedS_64 : szLoggedS (DD 64) := by unfold szLoggedS; intros; refine lk (g := 64) rfl Tryz.func83 mslaws_szLogged ?_; apply szLogged_b _ dszDialedS_63 <;> assumption
theorem dszLoggedSS_20 : szLoggedSS (DD 20) := by unfold szLoggedSS; intros; refine lk (g := 20) rfl Tryz.func29 mslaws_szLoggedS ?_; apply szLoggedS_b _ dszLoggedS_64 <;> assumption
theorem dszWorldS_7 : szWorldS (DD 7) := by unfold szWorldS; intros; refine lk (g := 7) rfl Tryz.func5 mslaws_szWorld ?_; apply szWorld_b _ dszIntSS_16 dszEndpointSS_17 dszRolloutS_18 dszDialedSS_19 dszLoggedSS_20 <;> assumption
theorem dtoIntSS_31 : toIntSS (DD 31) := by unfold toIntSS; intros; refine lk (g := 31) rfl Tryz.func32 mslaws_toIntS ?_; apply toIntS_b _  <;> assumption
theorem dtoBoxS_226 : toBoxS (DD 226) := by unfold toBoxS; intros; refine lk (g := 226) rfl Tryz.func144 mslaws_toBox ?_; apply toBox_b _ dtoIntSS_31 <;> assumption
theorem dtoBoxSS_170 : toBoxSS (DD 170) := by unfold toBoxSS; intros; refine lk (g := 170) rfl Tryz.func124 mslaws_toBoxS ?_; apply toBoxS_b _ dtoBoxS_226 <;> assumption
theorem dtoEndpointS_98 : toEndpointS (DD 98) := by unfold toEndpointS; intros; refine lk (g := 98) rfl Tryz.func87 mslaws_toEndpoint ?_; apply toEndpoint_b _ dtoIntSS_31 dtoBoxSS_170 <;> assumption
theorem dtoEndpointSS_32 : toEndpointSS (DD 32) := by unfold toEndpointSS; intros; refine lk (g := 32) rfl Tryz.func33 mslaws_toEndpointS ?_; apply toEndpointS_b _ dtoEndpointS_98 <;> assumption
theorem dtoRolloutS_33 : toRolloutS (DD 33) := by unfold toRolloutS; intros; refine lk (g := 33) rfl Tryz.func34 mslaws_toRollout ?_; apply toRollout_b _ dtoIntSS_31 <;> assumption
theorem dtoDealS_171 : toDealS (DD 171) := by unfold toDealS; intros; refine lk (g := 171) rfl Tryz.func125 mslaws_toDeal ?_; apply toDeal_b _ dtoIntSS_31 <;> assumption
theorem dtoDialedS_99 : toDialedS (DD 99) := by unfold toDialedS; intros; refine lk (g := 99) rfl Tryz.func88 mslaws_toDialed ?_; apply toDialed_b _ dtoDealS_171 dtoIntSS_31 <;> assumption
theorem dtoDialedSS_34 : toDialedSS (DD 34) := by unfold toDialedSS; intros; refine lk (g := 34) rfl Tryz.func35 mslaws_toDialedS ?_; apply toDialedS_b _ dtoDialedS_99 <;> assumption
theorem dtoLoggedS_100 : toLoggedS (DD 100) := by unfold toLoggedS; intros; refine lk (g := 100) rfl Tryz.func89 mslaws_toLogged ?_; apply toLogged_b _ dtoDialedS_99 <;> assumption
theorem dtoLoggedSS_35 : toLoggedSS (DD 35) := by unfold toLoggedSS; intros; refine lk (g := 35) rfl Tryz.func36 mslaws_toLoggedS ?_; apply toLoggedS_b _ dtoLoggedS_100 <;> assumption
theorem dtoWorldS_8 : toWorldS (DD 8) := by unfold toWorldS; intros; refine lk (g := 8) rfl Tryz.func7 mslaws_toWorld ?_; apply toWorld_b _ dtoIntSS_31 dtoEndpointSS_32 dtoRolloutS_33 dtoDialedSS_34 dtoLoggedSS_35 <;> assumption
theorem deqIntSS_47 : eqIntSS (DD 47) := by unfold eqIntSS; intros; refine lk (g := 47) rfl Tryz.func9 mslaws_eqIntS ?_; apply eqIntS_b _  <;> assumption
theorem deqBoxS_249 : eqBoxS (DD 249) := by unfold eqBoxS; intros; refine lk (g := 249) rfl Tryz.func147 mslaws_eqBox ?_; apply eqBox_b _ deqIntSS_47 <;> assumption
theorem deqBoxSS_204 : eqBoxSS (DD 204) := by unfold eqBoxSS; intros; refine lk (g := 204) rfl Tryz.func128 mslaws_eqBoxS ?_; apply eqBoxS_b _ deqBoxS_249 <;> assumption
theorem deqEndpointS_134 : eqEndpointS (DD 134) := by unfold eqEndpointS; intros; refine lk (g := 134) rfl Tryz.func92 mslaws_eqEndpoint ?_; apply eqEndpoint_b _ deqIntSS_47 deqBoxSS_204 <;> assumption
theorem deqEndpointSS_48 : eqEndpointSS (DD 48) := by unfold eqEndpointSS; intros; refine lk (g := 48) rfl Tryz.func39 mslaws_eqEndpointS ?_; apply eqEndpointS_b _ deqEndpointS_134 <;> assumption
theorem deqRolloutS_49 : eqRolloutS (DD 49) := by unfold eqRolloutS; intros; refine lk (g := 49) rfl Tryz.func40 mslaws_eqRollout ?_; apply eqRollout_b _ deqIntSS_47 <;> assumption
theorem deqDealS_205 : eqDealS (DD 205) := by unfold eqDealS; intros; refine lk (g := 205) rfl Tryz.func129 mslaws_eqDeal ?_; apply eqDeal_b _ deqIntSS_47 <;> assumption
theorem deqDialedS_135 : eqDialedS (DD 135) := by unfold eqDialedS; intros; refine lk (g := 135) rfl Tryz.func93 mslaws_eqDialed ?_; apply eqDialed_b _ deqDealS_205 deqIntSS_47 <;> assumption
theorem deqDialedSS_50 : eqDialedSS (DD 50) := by unfold eqDialedSS; intros; refine lk (g := 50) rfl Tryz.func41 mslaws_eqDialedS ?_; apply eqDialedS_b _ deqDialedS_135 <;> assumption
theorem deqLoggedS_136 : eqLoggedS (DD 136) := by unfold eqLoggedS; intros; refine lk (g := 136) rfl Tryz.func94 mslaws_eqLogged ?_; apply eqLogged_b _ deqDialedS_135 <;> assumption
theorem deqLoggedSS_51 : eqLoggedSS (DD 51) := by unfold eqLoggedSS; intros; refine lk (g := 51) rfl Tryz.func42 mslaws_eqLoggedS ?_; apply eqLoggedS_b _ deqLoggedS_136 <;> assumption
theorem deqWorldS_11 : eqWorldS (DD 11) := by unfold eqWorldS; intros; refine lk (g := 11) rfl Tryz.func10 mslaws_eqWorld ?_; apply eqWorld_b _ deqIntSS_47 deqEndpointSS_48 deqRolloutS_49 deqDialedSS_50 deqLoggedSS_51 <;> assumption
theorem dmarkIntSS_52 : markIntSS (DD 52) := by unfold markIntSS; intros; refine lk (g := 52) rfl Tryz.func12 mslaws_markIntS ?_; apply markIntS_b _  <;> assumption
theorem dmarkBoxSS_137 : markBoxSS (DD 137) := by unfold markBoxSS; intros; refine lk (g := 137) rfl Tryz.func95 mslaws_markBoxS ?_; apply markBoxS_b _ dmarkIntSS_52 <;> assumption
theorem dmarkEndpointSS_53 : markEndpointSS (DD 53) := by unfold markEndpointSS; intros; refine lk (g := 53) rfl Tryz.func43 mslaws_markEndpointS ?_; apply markEndpointS_b _ dmarkIntSS_52 dmarkBoxSS_137 <;> assumption
theorem dmarkRolloutS_54 : markRolloutS (DD 54) := by unfold markRolloutS; intros; refine lk (g := 54) rfl Tryz.func44 mslaws_markRollout ?_; apply markRollout_b _ dmarkIntSS_52 <;> assumption
theorem dmarkDialedSS_55 : markDialedSS (DD 55) := by unfold markDialedSS; intros; refine lk (g := 55) rfl Tryz.func45 mslaws_markDialedS ?_; apply markDialedS_b _ dmarkIntSS_52 <;> assumption
theorem dmarkLoggedSS_56 : markLoggedSS (DD 56) := by unfold markLoggedSS; intros; refine lk (g := 56) rfl Tryz.func46 mslaws_markLoggedS ?_; apply markLoggedS_b _ dmarkIntSS_52 <;> assumption
theorem dmarkWorldS_12 : markWorldS (DD 12) := by unfold markWorldS; intros; refine lk (g := 12) rfl Tryz.func11 mslaws_markWorld ?_; apply markWorld_b _ dmarkIntSS_52 dmarkEndpointSS_53 dmarkRolloutS_54 dmarkDialedSS_55 dmarkLoggedSS_56 <;> assumption
theorem dheldIntSS_57 : heldIntSS (DD 57) := by unfold heldIntSS; intros; refine lk (g := 57) rfl Tryz.func13 mslaws_heldIntS ?_; apply heldIntS_b _  <;> assumption
theorem dFnExactReportNowS_447 : FnExactReportNowS (DD 447) := by unfold FnExactReportNowS; intros; refine lk (g := 447) rfl Tryz.func3 mslaws_FnExactReportNow ?_; apply FnExactReportNow_b _ dReportNowS_97 dReportNowS_125 dszWorldS_7 dtoWorldS_8 deqIntSS_47 deqWorldS_11 dmarkWorldS_12 dmarkIntSS_52 dheldIntSS_57 <;> assumption
theorem den (av : List V) (h : ArgsV [tyWorld, .int .i64] av) : DD 447 av [] (B true) [] := by
  obtain ⟨v0, r0, h0, hr0, rfl⟩ := h
  obtain ⟨x0, rfl, l0, w0⟩ := argWorld h0
  obtain ⟨v1, r1, h1, hr1, rfl⟩ := hr0
  obtain ⟨x1, rfl, w1⟩ := argI h1
  have z : r1 = [] := hr1
  subst z
  apply dFnExactReportNowS_447 <;> assumption
end Go.Eng.T

