/- Own work: part 46 of the proof of FnExactVersionCounts. -/
import Derived.Test.YtncobgjmochecaaGreatP45
import Derived.Test.YtncobgjmochecaaGreatProg
import Derived.KernelRfl
namespace Go.Eng.T
open Go.Proofs
def fidL : List (Option Nat) := [none, none, none, none, none, none, none, some 5, some 7, none, none, some 9, some 13, none, none, none, some 16, some 17, some 18, some 19, some 20, none, none, none, none, none, none, none, none, none, none, some 23, some 24, some 25, some 26, some 27, none, none, none, none, none, none, none, none, none, none, none, some 12, some 30, some 31, some 32, some 33, some 14, some 34, some 35, some 36, some 37, some 15, none, none, none, none, some 38, some 39, some 40, none, none, none, none, none, none, some 21, none, none, none, none, none, none, none, none, none, none, none, none, none, none, some 10, none, none, none, none, none, some 6, none, none, none, none, none, some 45, some 46, some 47, none, none, none, none, none, none, none, none, none, none, none, none, none, some 48, none, none, some 28, none, some 8, none, none, none, none, none, none, none, none, none, none, some 11, none, none, none, some 53, some 54, some 55, some 56, none, some 57, some 58, none, none, none, none, none, none, none, none, none, none, none, some 60, none, none, none, none, none, none, none, none, none, none, none, none, some 22, some 63, none, some 42, none, some 65, some 66, none, none, none, none, none, none, none, none, none, none, none, some 72, none, none, some 29, none, some 74, some 51, some 50, none, none, none, none, none, none, none, none, none, none, none, none, none, some 77, some 78, some 79, some 41, some 61, none, none, none, none, none, none, none, none, some 80, none, none, none, none, some 44, some 43, some 62, none, some 83, none, none, none, none, none, some 67, some 84, none, some 68, none, none, none, some 49, some 52, none, some 73, none, none, none, none, none, none, some 92, some 59, none, none, none, none, none, some 82, none, some 95, none, some 64, none, none, none, none, none, some 96, some 85, none, none, some 69, some 71, some 70, some 76, some 75, none, none, none, none, some 86, none, none, none, none, none, some 93, some 81, none, none, none, none, none, some 89, some 90, some 91, some 100, some 101, some 103, some 102, none, none, some 94, none, none, none, none, none, none, some 113, some 111, none, some 105, some 104, none, none, none, none, none, some 99, none, some 98, some 106, none, none, none, some 108, some 110, some 109, none, none, none, some 112, none, none, none, none, none, none, none, none, none, none, none, none, none, none, none, none, none, none, some 107, some 115, some 114, none, none, none, none, none, none, none, none, none, none, none, none, none, none, none, none, none, none, none, none, none, none, none, none, none, none, none, none, none, none, none, none, none, none, none, none, some 88, none, none, none, none, none, none, none, none, none, none, none, none, none, none, some 97, none, some 87, none, none, none, none, none, none, none, none, none, none, none, none, none, none, none, none, none, none, none, none, none, none, none, none, none, none, none, none, none, none, none, none, none, none, none, none, none, none, none, some 4, none, none, none, none, none, none, none, none, none, none, none, none]
def fid : Nat → Option FuncId := fun g => fidL.getD g none
theorem hmix : Tryz.prog.follows .mixedOrders = true := by kernel_rfl
theorem hFl : fidL.all (fun o => match o with | some f => okF Tryz.prog f | none => true) = true := by kernel_rfl
theorem hF : ∀ g f, fid g = some f → okF Tryz.prog f = true := by
  intro g f h
  have := List.all_eq_true.1 hFl (some f) (by
    unfold fid at h
    rw [List.getD_eq_getElem?_getD] at h
    cases hg : fidL[g]? with
    | none => simp [hg] at h
    | some o => simp [hg] at h; subst h; exact List.mem_of_getElem? hg)
  exact this
abbrev G0 : Gl := ⟨fun _ => False, fun _ => none⟩
abbrev DD : Dn := Den Tryz.prog fid G0
theorem lk {g : Nat} {f : FuncId} {fn : Func} {st : List Tmp} {sf : SFn} (hg : fid g = some f) (hfn : Tryz.prog.funcs[f]? = some fn) (hm : mFn Tryz.prog fid st sf fn = true) {a : List V} {gi : List O} {r : V} {o : List O}
    (h : Body DD sf a gi r o) : DD g a gi r o :=
  fn_sound hmix (fun _ _ _ _ _ h => h) hF (fun id hid => by rw [hg] at hid; cases hid; exact hfn) hm h
theorem msspec_l1In : mFn Tryz.prog fid sspec_l1In_t sspec_l1In Tryz.f21 = true := by kernel_rfl
theorem msspec_IsReserved : mFn Tryz.prog fid sspec_IsReserved_t sspec_IsReserved Tryz.f59 = true := by kernel_rfl
theorem msspec_l9Byte : mFn Tryz.prog fid sspec_l9Byte_t sspec_l9Byte Tryz.f80 = true := by kernel_rfl
theorem msspec_IsBox : mFn Tryz.prog fid sspec_IsBox_t sspec_IsBox Tryz.f60 = true := by kernel_rfl
theorem msspec_AreVersions : mFn Tryz.prog fid sspec_AreVersions_t sspec_AreVersions Tryz.f61 = true := by kernel_rfl
theorem msspec_IsEndpoint : mFn Tryz.prog fid sspec_IsEndpoint_t sspec_IsEndpoint Tryz.f41 = true := by kernel_rfl
theorem msspec_PlainHello : mFn Tryz.prog fid sspec_PlainHello_t sspec_PlainHello Tryz.f82 = true := by kernel_rfl
theorem msspec_ExtOf : mFn Tryz.prog fid sspec_ExtOf_t sspec_ExtOf Tryz.f111 = true := by kernel_rfl
theorem msspec_AreExts : mFn Tryz.prog fid sspec_AreExts_t sspec_AreExts Tryz.f104 = true := by kernel_rfl
theorem msspec_IsHello : mFn Tryz.prog fid sspec_IsHello_t sspec_IsHello Tryz.f93 = true := by kernel_rfl
theorem msspec_TagsOf : mFn Tryz.prog fid sspec_TagsOf_t sspec_TagsOf Tryz.f113 = true := by kernel_rfl
theorem msspec_l9Has : mFn Tryz.prog fid sspec_l9Has_t sspec_l9Has Tryz.f63 = true := by kernel_rfl
theorem msspec_KnownOf : mFn Tryz.prog fid sspec_KnownOf_t sspec_KnownOf Tryz.f112 = true := by kernel_rfl
theorem msspec_l11Copy : mFn Tryz.prog fid sspec_l11Copy_t sspec_l11Copy Tryz.f105 = true := by kernel_rfl
theorem msspec_l18Hello : mFn Tryz.prog fid sspec_l18Hello_t sspec_l18Hello Tryz.f94 = true := by kernel_rfl
theorem msspec_PassBox : mFn Tryz.prog fid sspec_PassBox_t sspec_PassBox Tryz.f95 = true := by kernel_rfl
theorem msspec_PassPath : mFn Tryz.prog fid sspec_PassPath_t sspec_PassPath Tryz.f81 = true := by kernel_rfl
theorem msspec_IsOpenPath : mFn Tryz.prog fid sspec_IsOpenPath_t sspec_IsOpenPath Tryz.f64 = true := by kernel_rfl
theorem msspec_LostVersions : mFn Tryz.prog fid sspec_LostVersions_t sspec_LostVersions Tryz.f44 = true := by kernel_rfl
theorem msspec_l21Left : mFn Tryz.prog fid sspec_l21Left_t sspec_l21Left Tryz.f43 = true := by kernel_rfl
theorem msspec_CommonOf : mFn Tryz.prog fid sspec_CommonOf_t sspec_CommonOf Tryz.f62 = true := by kernel_rfl
theorem msspec_BestCommon : mFn Tryz.prog fid sspec_BestCommon_t sspec_BestCommon Tryz.f42 = true := by kernel_rfl
theorem msspec_BestFor : mFn Tryz.prog fid sspec_BestFor_t sspec_BestFor Tryz.f22 = true := by kernel_rfl
theorem msspec_BestNow : mFn Tryz.prog fid sspec_BestNow_t sspec_BestNow Tryz.f6 = true := by kernel_rfl
theorem msspec_VersionCounts : mFn Tryz.prog fid sspec_VersionCounts_t sspec_VersionCounts Tryz.f10 = true := by kernel_rfl
theorem msimpl_InRange : mFn Tryz.prog fid simpl_InRange_t simpl_InRange Tryz.f48 = true := by kernel_rfl
theorem msimpl_hasEnd : mFn Tryz.prog fid simpl_hasEnd_t simpl_hasEnd Tryz.f28 = true := by kernel_rfl
theorem msimpl_AreVersions : mFn Tryz.prog fid simpl_AreVersions_t simpl_AreVersions Tryz.f67 = true := by kernel_rfl
theorem msimpl_areNumbers_1 : mFn Tryz.prog fid simpl_areNumbers_1_t simpl_areNumbers_1 Tryz.f96 = true := by kernel_rfl
theorem msslices_IndexFunc___int_int_ : mFn Tryz.prog fid sslices_IndexFunc___int_int__t sslices_IndexFunc___int_int_ Tryz.f97 = true := by kernel_rfl
theorem msslices_ContainsFunc___int_int_ : mFn Tryz.prog fid sslices_ContainsFunc___int_int__t sslices_ContainsFunc___int_int_ Tryz.f85 = true := by kernel_rfl
theorem msimpl_areNumbers : mFn Tryz.prog fid simpl_areNumbers_t simpl_areNumbers Tryz.f84 = true := by kernel_rfl
theorem msimpl_areTags : mFn Tryz.prog fid simpl_areTags_t simpl_areTags Tryz.f68 = true := by kernel_rfl
theorem msimpl_IsReserved : mFn Tryz.prog fid simpl_IsReserved_t simpl_IsReserved Tryz.f86 = true := by kernel_rfl
theorem msimpl_IsHardened : mFn Tryz.prog fid simpl_IsHardened_t simpl_IsHardened Tryz.f69 = true := by kernel_rfl
theorem msimpl_IsBox : mFn Tryz.prog fid simpl_IsBox_t simpl_IsBox Tryz.f72 = true := by kernel_rfl
theorem msimpl_IsEndpoint_1 : mFn Tryz.prog fid simpl_IsEndpoint_1_t simpl_IsEndpoint_1 Tryz.f71 = true := by kernel_rfl
theorem msslices_IndexFunc___impl_Box_impl_Box_ : mFn Tryz.prog fid sslices_IndexFunc___impl_Box_impl_Box__t sslices_IndexFunc___impl_Box_impl_Box_ Tryz.f87 = true := by kernel_rfl
theorem msslices_ContainsFunc___impl_Box_impl_Box_ : mFn Tryz.prog fid sslices_ContainsFunc___impl_Box_impl_Box__t sslices_ContainsFunc___impl_Box_impl_Box_ Tryz.f70 = true := by kernel_rfl
theorem msimpl_IsEndpoint : mFn Tryz.prog fid simpl_IsEndpoint_t simpl_IsEndpoint Tryz.f49 = true := by kernel_rfl
theorem msimpl_PlainHello : mFn Tryz.prog fid simpl_PlainHello_t simpl_PlainHello Tryz.f76 = true := by kernel_rfl
theorem msimpl_ExtOf_1 : mFn Tryz.prog fid simpl_ExtOf_1_t simpl_ExtOf_1 Tryz.f115 = true := by kernel_rfl
theorem msslices_IndexFunc___impl_Ext_impl_Ext_ : mFn Tryz.prog fid sslices_IndexFunc___impl_Ext_impl_Ext__t sslices_IndexFunc___impl_Ext_impl_Ext_ Tryz.f114 = true := by kernel_rfl
theorem msimpl_ExtOf : mFn Tryz.prog fid simpl_ExtOf_t simpl_ExtOf Tryz.f106 = true := by kernel_rfl
theorem msimpl_AreExts : mFn Tryz.prog fid simpl_AreExts_t simpl_AreExts Tryz.f98 = true := by kernel_rfl
theorem msimpl_IsHello : mFn Tryz.prog fid simpl_IsHello_t simpl_IsHello Tryz.f89 = true := by kernel_rfl
theorem msimpl_copyExts_1 : mFn Tryz.prog fid simpl_copyExts_1_t simpl_copyExts_1 Tryz.f107 = true := by kernel_rfl
theorem msimpl_keptExts : mFn Tryz.prog fid simpl_keptExts_t simpl_keptExts Tryz.f102 = true := by kernel_rfl
theorem msimpl_copyExts : mFn Tryz.prog fid simpl_copyExts_t simpl_copyExts Tryz.f99 = true := by kernel_rfl
theorem msimpl_copyHello : mFn Tryz.prog fid simpl_copyHello_t simpl_copyHello Tryz.f90 = true := by kernel_rfl
theorem msslices_Index___int_int_ : mFn Tryz.prog fid sslices_Index___int_int__t sslices_Index___int_int_ Tryz.f88 = true := by kernel_rfl
theorem msslices_Contains___int_int_ : mFn Tryz.prog fid sslices_Contains___int_int__t sslices_Contains___int_int_ Tryz.f74 = true := by kernel_rfl
theorem msimpl_loses_1 : mFn Tryz.prog fid simpl_loses_1_t simpl_loses_1 Tryz.f110 = true := by kernel_rfl
theorem msslices_ContainsFunc___impl_Ext_impl_Ext_ : mFn Tryz.prog fid sslices_ContainsFunc___impl_Ext_impl_Ext__t sslices_ContainsFunc___impl_Ext_impl_Ext_ Tryz.f109 = true := by kernel_rfl
theorem msimpl_loses : mFn Tryz.prog fid simpl_loses_t simpl_loses Tryz.f100 = true := by kernel_rfl
theorem msimpl_PassBox_1 : mFn Tryz.prog fid simpl_PassBox_1_t simpl_PassBox_1 Tryz.f103 = true := by kernel_rfl
theorem msimpl_PassBox : mFn Tryz.prog fid simpl_PassBox_t simpl_PassBox Tryz.f91 = true := by kernel_rfl
theorem msimpl_PassPath : mFn Tryz.prog fid simpl_PassPath_t simpl_PassPath Tryz.f75 = true := by kernel_rfl
theorem msimpl_LostVersions : mFn Tryz.prog fid simpl_LostVersions_t simpl_LostVersions Tryz.f52 = true := by kernel_rfl
theorem msimpl_without : mFn Tryz.prog fid simpl_without_t simpl_without Tryz.f51 = true := by kernel_rfl
theorem msimpl_CommonOf : mFn Tryz.prog fid simpl_CommonOf_t simpl_CommonOf Tryz.f73 = true := by kernel_rfl
theorem msimpl_BestCommon : mFn Tryz.prog fid simpl_BestCommon_t simpl_BestCommon Tryz.f50 = true := by kernel_rfl
theorem msimpl_BestFor : mFn Tryz.prog fid simpl_BestFor_t simpl_BestFor Tryz.f29 = true := by kernel_rfl
theorem msimpl_BestNow : mFn Tryz.prog fid simpl_BestNow_t simpl_BestNow Tryz.f8 = true := by kernel_rfl
theorem msimpl_VersionCounts : mFn Tryz.prog fid simpl_VersionCounts_t simpl_VersionCounts Tryz.f11 = true := by kernel_rfl
theorem mslaws_szIntS : mFn Tryz.prog fid slaws_szIntS_t slaws_szIntS Tryz.f16 = true := by kernel_rfl
theorem mslaws_szBox : mFn Tryz.prog fid slaws_szBox_t slaws_szBox Tryz.f79 = true := by kernel_rfl
theorem mslaws_szBoxS : mFn Tryz.prog fid slaws_szBoxS_t slaws_szBoxS Tryz.f57 = true := by kernel_rfl
theorem mslaws_szEndpoint : mFn Tryz.prog fid slaws_szEndpoint_t slaws_szEndpoint Tryz.f38 = true := by kernel_rfl
theorem mslaws_szEndpointS : mFn Tryz.prog fid slaws_szEndpointS_t slaws_szEndpointS Tryz.f17 = true := by kernel_rfl
theorem mslaws_szRollout : mFn Tryz.prog fid slaws_szRollout_t slaws_szRollout Tryz.f18 = true := by kernel_rfl
theorem mslaws_szDeal : mFn Tryz.prog fid slaws_szDeal_t slaws_szDeal Tryz.f58 = true := by kernel_rfl
theorem mslaws_szDialed : mFn Tryz.prog fid slaws_szDialed_t slaws_szDialed Tryz.f39 = true := by kernel_rfl
theorem mslaws_szDialedS : mFn Tryz.prog fid slaws_szDialedS_t slaws_szDialedS Tryz.f19 = true := by kernel_rfl
theorem mslaws_szLogged : mFn Tryz.prog fid slaws_szLogged_t slaws_szLogged Tryz.f40 = true := by kernel_rfl
theorem mslaws_szLoggedS : mFn Tryz.prog fid slaws_szLoggedS_t slaws_szLoggedS Tryz.f20 = true := by kernel_rfl
theorem mslaws_szWorld : mFn Tryz.prog fid slaws_szWorld_t slaws_szWorld Tryz.f5 = true := by kernel_rfl
theorem mslaws_toIntS : mFn Tryz.prog fid slaws_toIntS_t slaws_toIntS Tryz.f23 = true := by kernel_rfl
theorem mslaws_toBox : mFn Tryz.prog fid slaws_toBox_t slaws_toBox Tryz.f83 = true := by kernel_rfl
theorem mslaws_toBoxS : mFn Tryz.prog fid slaws_toBoxS_t slaws_toBoxS Tryz.f65 = true := by kernel_rfl
theorem mslaws_toEndpoint : mFn Tryz.prog fid slaws_toEndpoint_t slaws_toEndpoint Tryz.f45 = true := by kernel_rfl
theorem mslaws_toEndpointS : mFn Tryz.prog fid slaws_toEndpointS_t slaws_toEndpointS Tryz.f24 = true := by kernel_rfl
theorem mslaws_toRollout : mFn Tryz.prog fid slaws_toRollout_t slaws_toRollout Tryz.f25 = true := by kernel_rfl
theorem mslaws_toDeal : mFn Tryz.prog fid slaws_toDeal_t slaws_toDeal Tryz.f66 = true := by kernel_rfl
theorem mslaws_toDialed : mFn Tryz.prog fid slaws_toDialed_t slaws_toDialed Tryz.f46 = true := by kernel_rfl
theorem mslaws_toDialedS : mFn Tryz.prog fid slaws_toDialedS_t slaws_toDialedS Tryz.f26 = true := by kernel_rfl
theorem mslaws_toLogged : mFn Tryz.prog fid slaws_toLogged_t slaws_toLogged Tryz.f47 = true := by kernel_rfl
theorem mslaws_toLoggedS : mFn Tryz.prog fid slaws_toLoggedS_t slaws_toLoggedS Tryz.f27 = true := by kernel_rfl
theorem mslaws_toWorld : mFn Tryz.prog fid slaws_toWorld_t slaws_toWorld Tryz.f7 = true := by kernel_rfl
theorem mslaws_eqIntS : mFn Tryz.prog fid slaws_eqIntS_t slaws_eqIntS Tryz.f12 = true := by kernel_rfl
theorem mslaws_eqBox : mFn Tryz.prog fid slaws_eqBox_t slaws_eqBox Tryz.f92 = true := by kernel_rfl
theorem mslaws_eqBoxS : mFn Tryz.prog fid slaws_eqBoxS_t slaws_eqBoxS Tryz.f77 = true := by kernel_rfl
theorem mslaws_eqEndpoint : mFn Tryz.prog fid slaws_eqEndpoint_t slaws_eqEndpoint Tryz.f53 = true := by kernel_rfl
theorem mslaws_eqEndpointS : mFn Tryz.prog fid slaws_eqEndpointS_t slaws_eqEndpointS Tryz.f30 = true := by kernel_rfl
theorem mslaws_eqRollout : mFn Tryz.prog fid slaws_eqRollout_t slaws_eqRollout Tryz.f31 = true := by kernel_rfl
theorem mslaws_eqDeal : mFn Tryz.prog fid slaws_eqDeal_t slaws_eqDeal Tryz.f78 = true := by kernel_rfl
theorem mslaws_eqDialed : mFn Tryz.prog fid slaws_eqDialed_t slaws_eqDialed Tryz.f54 = true := by kernel_rfl
theorem mslaws_eqDialedS : mFn Tryz.prog fid slaws_eqDialedS_t slaws_eqDialedS Tryz.f32 = true := by kernel_rfl
theorem mslaws_eqLogged : mFn Tryz.prog fid slaws_eqLogged_t slaws_eqLogged Tryz.f55 = true := by kernel_rfl
theorem mslaws_eqLoggedS : mFn Tryz.prog fid slaws_eqLoggedS_t slaws_eqLoggedS Tryz.f33 = true := by kernel_rfl
theorem mslaws_eqWorld : mFn Tryz.prog fid slaws_eqWorld_t slaws_eqWorld Tryz.f9 = true := by kernel_rfl
theorem mslaws_markIntS : mFn Tryz.prog fid slaws_markIntS_t slaws_markIntS Tryz.f14 = true := by kernel_rfl
theorem mslaws_markBoxS : mFn Tryz.prog fid slaws_markBoxS_t slaws_markBoxS Tryz.f56 = true := by kernel_rfl
theorem mslaws_markEndpointS : mFn Tryz.prog fid slaws_markEndpointS_t slaws_markEndpointS Tryz.f34 = true := by kernel_rfl
theorem mslaws_markRollout : mFn Tryz.prog fid slaws_markRollout_t slaws_markRollout Tryz.f35 = true := by kernel_rfl
theorem mslaws_markDialedS : mFn Tryz.prog fid slaws_markDialedS_t slaws_markDialedS Tryz.f36 = true := by kernel_rfl
theorem mslaws_markLoggedS : mFn Tryz.prog fid slaws_markLoggedS_t slaws_markLoggedS Tryz.f37 = true := by kernel_rfl
theorem mslaws_markWorld : mFn Tryz.prog fid slaws_markWorld_t slaws_markWorld Tryz.f13 = true := by kernel_rfl
theorem mslaws_heldIntS : mFn Tryz.prog fid slaws_heldIntS_t slaws_heldIntS Tryz.f15 = true := by kernel_rfl
theorem mslaws_FnExactVersionCounts : mFn Tryz.prog fid slaws_FnExactVersionCounts_t slaws_FnExactVersionCounts Tryz.f4 = true := by kernel_rfl
theorem dInS_71 : InS (DD 71) := by unfold InS; intros; refine lk (g := 71) rfl Tryz.func21 msspec_l1In ?_; apply l1In_b _  <;> assumption
theorem dIsReservedS_250 : IsReservedS (DD 250) := by unfold IsReservedS; intros; refine lk (g := 250) rfl Tryz.func59 msspec_IsReserved ?_; apply sIsReserved_b _ dInS_71 <;> assumption
theorem dl9ByteS_217 : l9ByteS (DD 217) := by unfold l9ByteS; intros; refine lk (g := 217) rfl Tryz.func80 msspec_l9Byte ?_; apply l9Byte_b _ dInS_71 <;> assumption
theorem dIsBoxS_152 : IsBoxS (DD 152) := by unfold IsBoxS; intros; refine lk (g := 152) rfl Tryz.func60 msspec_IsBox ?_; apply sIsBox_b _ dInS_71 dl9ByteS_217 <;> assumption
theorem dAreVersionsS_208 : AreVersionsS (DD 208) := by unfold AreVersionsS; intros; refine lk (g := 208) rfl Tryz.func61 msspec_AreVersions ?_; apply sAreVersions_b _ dInS_71 <;> assumption
theorem dIsEndpointS_207 : IsEndpointS (DD 207) := by unfold IsEndpointS; intros; refine lk (g := 207) rfl Tryz.func41 msspec_IsEndpoint ?_; apply sIsEndpoint_b _ dInS_71 dIsReservedS_250 dIsBoxS_152 dAreVersionsS_208 <;> assumption
theorem dPlainHelloS_256 : PlainHelloS (DD 256) := by unfold PlainHelloS; intros; refine lk (g := 256) rfl Tryz.func82 msspec_PlainHello ?_; apply sPlainHello_b _  <;> assumption
theorem dExtOfS_309 : ExtOfS (DD 309) := by unfold ExtOfS; intros; refine lk (g := 309) rfl Tryz.func111 msspec_ExtOf ?_; apply sExtOf_b _  <;> assumption
theorem dAreExtsS_312 : AreExtsS (DD 312) := by unfold AreExtsS; intros; refine lk (g := 312) rfl Tryz.func104 msspec_AreExts ?_; apply sAreExts_b _ dInS_71 dl9ByteS_217 dExtOfS_309 <;> assumption
theorem dIsHelloS_285 : IsHelloS (DD 285) := by unfold IsHelloS; intros; refine lk (g := 285) rfl Tryz.func93 msspec_IsHello ?_; apply sIsHello_b _ dAreVersionsS_208 dAreExtsS_312 <;> assumption
theorem dTagsOfS_308 : TagsOfS (DD 308) := by unfold TagsOfS; intros; refine lk (g := 308) rfl Tryz.func113 msspec_TagsOf ?_; apply sTagsOf_b _  <;> assumption
theorem dHasS_166 : HasS (DD 166) := by unfold HasS; intros; refine lk (g := 166) rfl Tryz.func63 msspec_l9Has ?_; apply l9Has_b _  <;> assumption
theorem dKnownOfS_331 : KnownOfS (DD 331) := by unfold KnownOfS; intros; refine lk (g := 331) rfl Tryz.func112 msspec_KnownOf ?_; apply sKnownOf_b _ dHasS_166 <;> assumption
theorem dcpExtsS_311 : cpExtsS (DD 311) := by unfold cpExtsS; intros; refine lk (g := 311) rfl Tryz.func105 msspec_l11Copy ?_; apply l11Copy_b _ dTagsOfS_308 dKnownOfS_331 <;> assumption
theorem dcpHelloS_301 : cpHelloS (DD 301) := by unfold cpHelloS; intros; refine lk (g := 301) rfl Tryz.func94 msspec_l18Hello ?_; apply l18Hello_b _ dcpExtsS_311 <;> assumption
theorem dPassBoxS_258 : PassBoxS (DD 258) := by unfold PassBoxS; intros; refine lk (g := 258) rfl Tryz.func95 msspec_PassBox ?_; apply sPassBox_b _ dIsBoxS_152 dIsHelloS_285 dHasS_166 dInS_71 <;> assumption
theorem dPassPathS_286 : PassPathS (DD 286) := by unfold PassPathS; intros; refine lk (g := 286) rfl Tryz.func81 msspec_PassPath ?_; apply sPassPath_b _ dIsHelloS_285 dcpHelloS_301 dPassBoxS_258 <;> assumption
theorem dIsOpenPathS_260 : IsOpenPathS (DD 260) := by unfold IsOpenPathS; intros; refine lk (g := 260) rfl Tryz.func64 msspec_IsOpenPath ?_; apply sIsOpenPath_b _ dAreVersionsS_208 dPlainHelloS_256 dPassPathS_286 <;> assumption
theorem dLostVersionsS_222 : LostVersionsS (DD 222) := by unfold LostVersionsS; intros; refine lk (g := 222) rfl Tryz.func44 msspec_LostVersions ?_; apply sLostVersions_b _ dAreVersionsS_208 dIsOpenPathS_260 <;> assumption
theorem dLeftS_223 : LeftS (DD 223) := by unfold LeftS; intros; refine lk (g := 223) rfl Tryz.func43 msspec_l21Left ?_; apply l21Left_b _ dHasS_166 <;> assumption
theorem dCommonOfS_224 : CommonOfS (DD 224) := by unfold CommonOfS; intros; refine lk (g := 224) rfl Tryz.func62 msspec_CommonOf ?_; apply sCommonOf_b _ dHasS_166 <;> assumption
theorem dBestCommonS_168 : BestCommonS (DD 168) := by unfold BestCommonS; intros; refine lk (g := 168) rfl Tryz.func42 msspec_BestCommon ?_; apply sBestCommon_b _ dCommonOfS_224 dAreVersionsS_208 <;> assumption
theorem dBestForS_165 : BestForS (DD 165) := by unfold BestForS; intros; refine lk (g := 165) rfl Tryz.func22 msspec_BestFor ?_; apply sBestFor_b _ dIsEndpointS_207 dLostVersionsS_222 dLeftS_223 dBestCommonS_168 <;> assumption
theorem dBestNowS_92 : BestNowS (DD 92) := by unfold BestNowS; intros; refine lk (g := 92) rfl Tryz.func6 msspec_BestNow ?_; apply sBestNow_b _ dInS_71 dBestForS_165 <;> assumption
theorem dVersionCountsS_86 : VersionCountsS (DD 86) := by unfold VersionCountsS; intros; refine lk (g := 86) rfl Tryz.func10 msspec_VersionCounts ?_; apply sVersionCounts_b _ dBestNowS_92 <;> assumption
theorem dInS_114 : InS (DD 114) := by unfold InS; intros; refine lk (g := 114) rfl Tryz.func48 msimpl_InRange ?_; apply InRange_b _  <;> assumption
theorem dhasEndS_117 : hasEndS (DD 117) := by unfold hasEndS; intros; refine lk (g := 117) rfl Tryz.func28 msimpl_hasEnd ?_; apply hasEnd_b _ dInS_114 <;> assumption
theorem dAreVersionsS_232 : AreVersionsS (DD 232) := by unfold AreVersionsS; intros; refine lk (g := 232) rfl Tryz.func67 msimpl_AreVersions ?_; apply iAreVersions_b _ dInS_114 <;> assumption
theorem dareNumbers1S_266 : areNumbers1S (DD 266) := by unfold areNumbers1S; intros; refine lk (g := 266) rfl Tryz.func96 msimpl_areNumbers_1 ?_; apply areNumbers1_b _ dInS_114 <;> assumption
theorem dIndexFuncS_404 : IndexFuncS DD (DD 404) := by unfold IndexFuncS; intros; refine lk (g := 404) rfl Tryz.func97 msslices_IndexFunc___int_int_ ?_; apply IndexFunc_b _  <;> assumption
theorem dContainsFuncS_267 : ContainsFuncS DD (DD 267) := by unfold ContainsFuncS; intros; refine lk (g := 267) rfl Tryz.func85 msslices_ContainsFunc___int_int_ ?_; apply ContainsFunc_b _ dIndexFuncS_404 <;> assumption
theorem dareNumbersS_233 : areNumbersS (DD 233) := by unfold areNumbersS; intros; refine lk (g := 233) rfl Tryz.func84 msimpl_areNumbers ?_; apply areNumbers_b _ dareNumbers1S_266 dContainsFuncS_267 <;> assumption
theorem dAreTagsS_235 : AreTagsS (DD 235) := by unfold AreTagsS; intros; refine lk (g := 235) rfl Tryz.func68 msimpl_areTags ?_; apply iareTags_b _ dareNumbersS_233 <;> assumption
theorem dIsReservedS_279 : IsReservedS (DD 279) := by unfold IsReservedS; intros; refine lk (g := 279) rfl Tryz.func86 msimpl_IsReserved ?_; apply iIsReserved_b _ dInS_114 <;> assumption
theorem dIsHardenedS_270 : IsHardenedS (DD 270) := by unfold IsHardenedS; intros; refine lk (g := 270) rfl Tryz.func69 msimpl_IsHardened ?_; apply iIsHardened_b _ dIsReservedS_279 dContainsFuncS_267 <;> assumption
theorem dIsBoxS_183 : IsBoxS (DD 183) := by unfold IsBoxS; intros; refine lk (g := 183) rfl Tryz.func72 msimpl_IsBox ?_; apply iIsBox_b _ dInS_114 dareNumbersS_233 <;> assumption
theorem dIsEndpoint1S_271 : IsEndpoint1S (DD 271) := by unfold IsEndpoint1S; intros; refine lk (g := 271) rfl Tryz.func71 msimpl_IsEndpoint_1 ?_; apply IsEndpoint1_b _ dIsBoxS_183 <;> assumption
theorem dIndexFuncBoxS_406 : IndexFuncBoxS DD (DD 406) := by unfold IndexFuncBoxS; intros; refine lk (g := 406) rfl Tryz.func87 msslices_IndexFunc___impl_Box_impl_Box_ ?_; apply IndexFuncBox_b _  <;> assumption
theorem dContainsFuncBoxS_272 : ContainsFuncBoxS DD (DD 272) := by unfold ContainsFuncBoxS; intros; refine lk (g := 272) rfl Tryz.func70 msslices_ContainsFunc___impl_Box_impl_Box_ ?_; apply ContainsFuncBox_b _ dIndexFuncBoxS_406 <;> assumption
theorem dIsEndpointS_239 : IsEndpointS (DD 239) := by unfold IsEndpointS; intros; refine lk (g := 239) rfl Tryz.func49 msimpl_IsEndpoint ?_; apply iIsEndpoint_b _ dAreVersionsS_232 dAreTagsS_235 dIsHardenedS_270 dIsEndpoint1S_271 dContainsFuncBoxS_272 dInS_114 <;> assumption
theorem dPlainHelloS_273 : PlainHelloS (DD 273) := by unfold PlainHelloS; intros; refine lk (g := 273) rfl Tryz.func76 msimpl_PlainHello ?_; apply iPlainHello_b _  <;> assumption
theorem dExtOf1S_351 : ExtOf1S (DD 351) := by unfold ExtOf1S; intros; refine lk (g := 351) rfl Tryz.func115 msimpl_ExtOf_1 ?_; apply ExtOf1_b _  <;> assumption
theorem dIndexFuncExtS_352 : IndexFuncExtS DD (DD 352) := by unfold IndexFuncExtS; intros; refine lk (g := 352) rfl Tryz.func114 msslices_IndexFunc___impl_Ext_impl_Ext_ ?_; apply IndexFuncExt_b _  <;> assumption
theorem dExtOfS_321 : ExtOfS (DD 321) := by unfold ExtOfS; intros; refine lk (g := 321) rfl Tryz.func106 msimpl_ExtOf ?_; apply iExtOf_b _ dExtOf1S_351 dIndexFuncExtS_352 <;> assumption
theorem dAreExtsS_320 : AreExtsS (DD 320) := by unfold AreExtsS; intros; refine lk (g := 320) rfl Tryz.func98 msimpl_AreExts ?_; apply iAreExts_b _ dInS_114 dExtOfS_321 dareNumbersS_233 <;> assumption
theorem dIsHelloS_292 : IsHelloS (DD 292) := by unfold IsHelloS; intros; refine lk (g := 292) rfl Tryz.func89 msimpl_IsHello ?_; apply iIsHello_b _ dAreVersionsS_232 dAreExtsS_320 <;> assumption
theorem dKeepAllS_350 : KeepAllS (DD 350) := by unfold KeepAllS; intros; refine lk (g := 350) rfl Tryz.func107 msimpl_copyExts_1 ?_; apply copyExts1_b _  <;> assumption
theorem dkeptExtsS_298 : keptExtsS DD (DD 298) := by unfold keptExtsS; intros; refine lk (g := 298) rfl Tryz.func102 msimpl_keptExts ?_; apply keptExts_b _  <;> assumption
theorem dcpExtsS_318 : cpExtsS (DD 318) := by unfold cpExtsS; intros; refine lk (g := 318) rfl Tryz.func99 msimpl_copyExts ?_; apply copyExts_b _ dKeepAllS_350 dkeptExtsS_298 <;> assumption
theorem dcpHelloS_293 : cpHelloS (DD 293) := by unfold cpHelloS; intros; refine lk (g := 293) rfl Tryz.func90 msimpl_copyHello ?_; apply copyHello_b _ dcpExtsS_318 <;> assumption
theorem dMaxS_325 : MaxS (DD 325) := max_den (k := 108) rfl (fun b off n c zs w h1 h2 h3 h4 => Tryz.slices_Max_int b off n c zs w h1 h2 h3 h4)
theorem dIndexS_389 : IndexS (DD 389) := by unfold IndexS; intros; refine lk (g := 389) rfl Tryz.func88 msslices_Index___int_int_ ?_; apply Index_b _  <;> assumption
theorem dHasS_188 : HasS (DD 188) := by unfold HasS; intros; refine lk (g := 188) rfl Tryz.func74 msslices_Contains___int_int_ ?_; apply Contains_b _ dIndexS_389 <;> assumption
theorem dloses1S_326 : loses1S (DD 326) := by unfold loses1S; intros; refine lk (g := 326) rfl Tryz.func110 msimpl_loses_1 ?_; apply loses1_b _ dHasS_188 dInS_114 <;> assumption
theorem dContainsFuncExtS_327 : ContainsFuncExtS DD (DD 327) := by unfold ContainsFuncExtS; intros; refine lk (g := 327) rfl Tryz.func109 msslices_ContainsFunc___impl_Ext_impl_Ext_ ?_; apply ContainsFuncExt_b _ dIndexFuncExtS_352 <;> assumption
theorem dlosesS_295 : losesS (DD 295) := by unfold losesS; intros; refine lk (g := 295) rfl Tryz.func100 msimpl_loses ?_; apply loses_b _ dMaxS_325 dloses1S_326 dContainsFuncExtS_327 <;> assumption
theorem dCloneS_296 : CloneS (DD 296) := clone_den (k := 101) rfl (fun n c w => Tryz.slices_Clone_int_nil n c w) (fun a c w => Tryz.slices_Clone_int_zero a c w) (fun b off n c zs w h1 h2 h3 => Tryz.slices_Clone_int b off n c zs w h1 h2 h3)
theorem dPassBox1S_297 : PassBox1S (DD 297) := by unfold PassBox1S; intros; refine lk (g := 297) rfl Tryz.func103 msimpl_PassBox_1 ?_; apply PassBox1_b _ dHasS_188 <;> assumption
theorem dPassBoxS_294 : PassBoxS (DD 294) := by unfold PassBoxS; intros; refine lk (g := 294) rfl Tryz.func91 msimpl_PassBox ?_; apply iPassBox_b _ dIsBoxS_183 dIsHelloS_292 dlosesS_295 dCloneS_296 dPassBox1S_297 dkeptExtsS_298 <;> assumption
theorem dPassPathS_274 : PassPathS (DD 274) := by unfold PassPathS; intros; refine lk (g := 274) rfl Tryz.func75 msimpl_PassPath ?_; apply iPassPath_b _ dIsHelloS_292 dcpHelloS_293 dPassBoxS_294 <;> assumption
theorem dLostVersionsS_240 : LostVersionsS (DD 240) := by unfold LostVersionsS; intros; refine lk (g := 240) rfl Tryz.func52 msimpl_LostVersions ?_; apply iLostVersions_b _ dAreVersionsS_232 dPlainHelloS_273 dPassPathS_274 <;> assumption
theorem dLeftS_189 : LeftS (DD 189) := by unfold LeftS; intros; refine lk (g := 189) rfl Tryz.func51 msimpl_without ?_; apply withoutG_b _ dHasS_188 <;> assumption
theorem dCommonOfS_242 : CommonOfS (DD 242) := by unfold CommonOfS; intros; refine lk (g := 242) rfl Tryz.func73 msimpl_CommonOf ?_; apply iCommonOf_b _ dHasS_188 <;> assumption
theorem dBestCommonS_190 : BestCommonS (DD 190) := by unfold BestCommonS; intros; refine lk (g := 190) rfl Tryz.func50 msimpl_BestCommon ?_; apply iBestCommon_b _ dCommonOfS_242 dAreVersionsS_232 <;> assumption
theorem dBestForS_186 : BestForS (DD 186) := by unfold BestForS; intros; refine lk (g := 186) rfl Tryz.func29 msimpl_BestFor ?_; apply iBestFor_b _ dIsEndpointS_239 dLostVersionsS_240 dLeftS_189 dBestCommonS_190 <;> assumption
theorem dBestNowS_119 : BestNowS (DD 119) := by unfold BestNowS; intros; refine lk (g := 119) rfl Tryz.func8 msimpl_BestNow ?_; apply iBestNow_b _ dhasEndS_117 dBestForS_186 <;> assumption
theorem dVersionCountsS_130 : VersionCountsS (DD 130) := by unfold VersionCountsS; intros; refine lk (g := 130) rfl Tryz.func11 msimpl_VersionCounts ?_; apply iVersionCounts_b _ dBestNowS_119 <;> assumption
theorem dszIntSS_16 : szIntSS (DD 16) := by unfold szIntSS; intros; refine lk (g := 16) rfl Tryz.func16 mslaws_szIntS ?_; apply szIntS_b _  <;> assumption
theorem dszBoxS_206 : szBoxS (DD 206) := by unfold szBoxS; intros; refine lk (g := 206) rfl Tryz.func79 mslaws_szBox ?_; apply szBox_b _ dszIntSS_16 <;> assumption
theorem dszBoxSS_139 : szBoxSS (DD 139) := by unfold szBoxSS; intros; refine lk (g := 139) rfl Tryz.func57 mslaws_szBoxS ?_; apply szBoxS_b _ dszBoxS_206 <;> assumption
theorem dszEndpointS_62 : szEndpointS (DD 62) := by unfold szEndpointS; intros; refine lk (g := 62) rfl Tryz.func38 mslaws_szEndpoint ?_; apply szEndpoint_b _ dszIntSS_16 dszBoxSS_139 <;> assumption
theorem dszEndpointSS_17 : szEndpointSS (DD 17) := by unfold szEndpointSS; intros; refine lk (g := 17) rfl Tryz.func17 mslaws_szEndpointS ?_; apply szEndpointS_b _ dszEndpointS_62 <;> assumption
theorem dszRolloutS_18 : szRolloutS (DD 18) := by unfold szRolloutS; intros; refine lk (g := 18) rfl Tryz.func18 mslaws_szRollout ?_; apply szRollout_b _ dszIntSS_16 <;> assumption
theorem dszDealS_140 : szDealS (DD 140) := by unfold szDealS; intros; refine lk (g := 140) rfl Tryz.func58 mslaws_szDeal ?_; apply szDeal_b _ dszIntSS_16 <;> assumption
theorem dszDialedS_63 : szDialedS (DD 63) := by unfold szDialedS; intros; refine lk (g := 63) rfl Tryz.func39 mslaws_szDialed ?_; apply szDialed_b _ dszDealS_140 dszIntSS_16 <;> assumption
theorem dszDialedSS_19 : szDialedSS (DD 19) := by unfold szDialedSS; intros; refine lk (g := 19) rfl Tryz.func19 mslaws_szDialedS ?_; apply szDialedS_b _ dszDialedS_63 <;> assumption
theorem dszLoggedS_64 : szLoggedS (DD 64) := by unfold szLoggedS; intros; refine lk (g := 64) rfl Tryz.func40 mslaws_szLogged ?_; apply szLogged_b _ dszDialedS_63 <;> assumption
theorem dszLoggedSS_20 : szLoggedSS (DD 20) := by unfold szLoggedSS; intros; refine lk (g := 20) rfl Tryz.func20 mslaws_szLoggedS ?_; apply szLoggedS_b _ dszLoggedS_64 <;> assumption
theorem dszWorldS_7 : szWorldS (DD 7) := by unfold szWorldS; intros; refine lk (g := 7) rfl Tryz.func5 mslaws_szWorld ?_; apply szWorld_b _ dszIntSS_16 dszEndpointSS_17 dszRolloutS_18 dszDialedSS_19 dszLoggedSS_20 <;> assumption
theorem dtoIntSS_31 : toIntSS (DD 31) := by unfold toIntSS; intros; refine lk (g := 31) rfl Tryz.func23 mslaws_toIntS ?_; apply toIntS_b _  <;> assumption
theorem dtoBoxS_226 : toBoxS (DD 226) := by unfold toBoxS; intros; refine lk (g := 226) rfl Tryz.func83 mslaws_toBox ?_; apply toBox_b _ dtoIntSS_31 <;> assumption
theorem dtoBoxSS_170 : toBoxSS (DD 170) := by unfold toBoxSS; intros; refine lk (g := 170) rfl Tryz.func65 mslaws_toBoxS ?_; apply toBoxS_b _ dtoBoxS_226 <;> assumption
theorem dtoEndpointS_98 : toEndpointS (DD 98) := by unfold toEndpointS; intros; refine lk (g := 98) rfl Tryz.func45 mslaws_toEndpoint ?_; apply toEndpoint_b _ dtoIntSS_31 dtoBoxSS_170 <;> assumption
theorem dtoEndpointSS_32 : toEndpointSS (DD 32) := by unfold toEndpointSS; intros; refine lk (g := 32) rfl Tryz.func24 mslaws_toEndpointS ?_; apply toEndpointS_b _ dtoEndpointS_98 <;> assumption
theorem dtoRolloutS_33 : toRolloutS (DD 33) := by unfold toRolloutS; intros; refine lk (g := 33) rfl Tryz.func25 mslaws_toRollout ?_; apply toRollout_b _ dtoIntSS_31 <;> assumption
theorem dtoDealS_171 : toDealS (DD 171) := by unfold toDealS; intros; refine lk (g := 171) rfl Tryz.func66 mslaws_toDeal ?_; apply toDeal_b _ dtoIntSS_31 <;> assumption
theorem dtoDialedS_99 : toDialedS (DD 99) := by unfold toDialedS; intros; refine lk (g := 99) rfl Tryz.func46 mslaws_toDialed ?_; apply toDialed_b _ dtoDealS_171 dtoIntSS_31 <;> assumption
theorem dtoDialedSS_34 : toDialedSS (DD 34) := by unfold toDialedSS; intros; refine lk (g := 34) rfl Tryz.func26 mslaws_toDialedS ?_; apply toDialedS_b _ dtoDialedS_99 <;> assumption
theorem dtoLoggedS_100 : toLoggedS (DD 100) := by unfold toLoggedS; intros; refine lk (g := 100) rfl Tryz.func47 mslaws_toLogged ?_; apply toLogged_b _ dtoDialedS_99 <;> assumption
theorem dtoLoggedSS_35 : toLoggedSS (DD 35) := by unfold toLoggedSS; intros; refine lk (g := 35) rfl Tryz.func27 mslaws_toLoggedS ?_; apply toLoggedS_b _ dtoLoggedS_100 <;> assumption
theorem dtoWorldS_8 : toWorldS (DD 8) := by unfold toWorldS; intros; refine lk (g := 8) rfl Tryz.func7 mslaws_toWorld ?_; apply toWorld_b _ dtoIntSS_31 dtoEndpointSS_32 dtoRolloutS_33 dtoDialedSS_34 dtoLoggedSS_35 <;> assumption
theorem deqIntSS_47 : eqIntSS (DD 47) := by unfold eqIntSS; intros; refine lk (g := 47) rfl Tryz.func12 mslaws_eqIntS ?_; apply eqIntS_b _  <;> assumption
theorem deqBoxS_249 : eqBoxS (DD 249) := by unfold eqBoxS; intros; refine lk (g := 249) rfl Tryz.func92 mslaws_eqBox ?_; apply eqBox_b _ deqIntSS_47 <;> assumption
theorem deqBoxSS_204 : eqBoxSS (DD 204) := by unfold eqBoxSS; intros; refine lk (g := 204) rfl Tryz.func77 mslaws_eqBoxS ?_; apply eqBoxS_b _ deqBoxS_249 <;> assumption
theorem deqEndpointS_134 : eqEndpointS (DD 134) := by unfold eqEndpointS; intros; refine lk (g := 134) rfl Tryz.func53 mslaws_eqEndpoint ?_; apply eqEndpoint_b _ deqIntSS_47 deqBoxSS_204 <;> assumption
theorem deqEndpointSS_48 : eqEndpointSS (DD 48) := by unfold eqEndpointSS; intros; refine lk (g := 48) rfl Tryz.func30 mslaws_eqEndpointS ?_; apply eqEndpointS_b _ deqEndpointS_134 <;> assumption
theorem deqRolloutS_49 : eqRolloutS (DD 49) := by unfold eqRolloutS; intros; refine lk (g := 49) rfl Tryz.func31 mslaws_eqRollout ?_; apply eqRollout_b _ deqIntSS_47 <;> assumption
theorem deqDealS_205 : eqDealS (DD 205) := by unfold eqDealS; intros; refine lk (g := 205) rfl Tryz.func78 mslaws_eqDeal ?_; apply eqDeal_b _ deqIntSS_47 <;> assumption
theorem deqDialedS_135 : eqDialedS (DD 135) := by unfold eqDialedS; intros; refine lk (g := 135) rfl Tryz.func54 mslaws_eqDialed ?_; apply eqDialed_b _ deqDealS_205 deqIntSS_47 <;> assumption
theorem deqDialedSS_50 : eqDialedSS (DD 50) := by unfold eqDialedSS; intros; refine lk (g := 50) rfl Tryz.func32 mslaws_eqDialedS ?_; apply eqDialedS_b _ deqDialedS_135 <;> assumption
theorem deqLoggedS_136 : eqLoggedS (DD 136) := by unfold eqLoggedS; intros; refine lk (g := 136) rfl Tryz.func55 mslaws_eqLogged ?_; apply eqLogged_b _ deqDialedS_135 <;> assumption
theorem deqLoggedSS_51 : eqLoggedSS (DD 51) := by unfold eqLoggedSS; intros; refine lk (g := 51) rfl Tryz.func33 mslaws_eqLoggedS ?_; apply eqLoggedS_b _ deqLoggedS_136 <;> assumption
theorem deqWorldS_11 : eqWorldS (DD 11) := by unfold eqWorldS; intros; refine lk (g := 11) rfl Tryz.func9 mslaws_eqWorld ?_; apply eqWorld_b _ deqIntSS_47 deqEndpointSS_48 deqRolloutS_49 deqDialedSS_50 deqLoggedSS_51 <;> assumption
theorem dmarkIntSS_52 : markIntSS (DD 52) := by unfold markIntSS; intros; refine lk (g := 52) rfl Tryz.func14 mslaws_markIntS ?_; apply markIntS_b _  <;> assumption
theorem dmarkBoxSS_137 : markBoxSS (DD 137) := by unfold markBoxSS; intros; refine lk (g := 137) rfl Tryz.func56 mslaws_markBoxS ?_; apply markBoxS_b _ dmarkIntSS_52 <;> assumption
theorem dmarkEndpointSS_53 : markEndpointSS (DD 53) := by unfold markEndpointSS; intros; refine lk (g := 53) rfl Tryz.func34 mslaws_markEndpointS ?_; apply markEndpointS_b _ dmarkIntSS_52 dmarkBoxSS_137 <;> assumption
theorem dmarkRolloutS_54 : markRolloutS (DD 54) := by unfold markRolloutS; intros; refine lk (g := 54) rfl Tryz.func35 mslaws_markRollout ?_; apply markRollout_b _ dmarkIntSS_52 <;> assumption
theorem dmarkDialedSS_55 : markDialedSS (DD 55) := by unfold markDialedSS; intros; refine lk (g := 55) rfl Tryz.func36 mslaws_markDialedS ?_; apply markDialedS_b _ dmarkIntSS_52 <;> assumption
theorem dmarkLoggedSS_56 : markLoggedSS (DD 56) := by unfold markLoggedSS; intros; refine lk (g := 56) rfl Tryz.func37 mslaws_markLoggedS ?_; apply markLoggedS_b _ dmarkIntSS_52 <;> assumption
theorem dmarkWorldS_12 : markWorldS (DD 12) := by unfold markWorldS; intros; refine lk (g := 12) rfl Tryz.func13 mslaws_markWorld ?_; apply markWorld_b _ dmarkIntSS_52 dmarkEndpointSS_53 dmarkRolloutS_54 dmarkDialedSS_55 dmarkLoggedSS_56 <;> assumption
theorem dheldIntSS_57 : heldIntSS (DD 57) := by unfold heldIntSS; intros; refine lk (g := 57) rfl Tryz.func15 mslaws_heldIntS ?_; apply heldIntS_b _  <;> assumption
theorem dFnExactVersionCountsS_446 : FnExactVersionCountsS (DD 446) := by unfold FnExactVersionCountsS; intros; refine lk (g := 446) rfl Tryz.func4 mslaws_FnExactVersionCounts ?_; apply FnExactVersionCounts_b _ dVersionCountsS_86 dVersionCountsS_130 dszWorldS_7 dtoWorldS_8 deqIntSS_47 deqWorldS_11 dmarkWorldS_12 dmarkIntSS_52 dheldIntSS_57 <;> assumption
theorem den (av : List V) (h : ArgsV [tyWorld] av) : DD 446 av [] (B true) [] := by
  obtain ⟨v0, r0, h0, hr0, rfl⟩ := h
  obtain ⟨x0, rfl, l0, w0⟩ := argWorld h0
  have z : r0 = [] := hr0
  subst z
  apply dFnExactVersionCountsS_446 <;> assumption
end Go.Eng.T

