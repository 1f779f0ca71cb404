/- Own work: part 46 of the proof of FnExactNewWorld. -/
import Derived.Test.YtncobgjmochecaaP45
import Derived.Test.YtncobgjmochecaaProg
import Derived.KernelRfl
namespace Go.Eng.T
open Go.Proofs
def fidL : List (Option Nat) := [none, none, none, none, none, none, none, none, none, none, none, some 10, some 11, some 25, none, none, some 26, some 14, some 15, none, none, none, some 38, none, none, none, none, none, none, none, none, some 17, some 18, some 19, none, none, none, none, some 41, none, none, none, none, none, none, none, none, some 9, some 21, some 22, some 33, some 34, some 12, some 23, some 24, some 35, some 36, some 13, some 45, some 46, some 47, some 48, some 37, none, none, some 58, some 59, some 60, none, none, some 16, some 69, none, none, none, none, none, none, none, none, none, none, none, none, none, none, none, none, none, none, none, none, none, none, none, some 68, none, none, some 40, none, none, some 71, some 72, some 73, none, none, none, none, none, none, none, none, none, none, some 83, none, some 20, none, none, none, none, none, none, some 75, none, none, none, none, none, none, none, none, none, none, some 43, some 55, some 56, some 44, some 85, some 57, none, some 39, none, none, none, some 65, none, none, none, none, none, none, some 87, none, none, none, none, none, none, none, none, none, none, none, none, none, some 66, none, some 100, none, some 70, none, some 102, none, none, none, some 81, none, none, none, none, none, none, some 92, some 42, none, none, none, some 82, none, some 106, none, none, none, none, none, none, none, none, none, none, none, none, none, some 84, some 97, some 98, some 61, some 62, some 63, some 64, some 67, none, none, none, none, none, some 114, none, none, none, none, none, none, some 122, none, some 101, none, none, none, none, none, some 103, some 107, some 74, some 76, some 77, some 79, some 78, some 80, none, none, some 124, none, none, none, none, none, none, some 113, some 99, none, none, none, none, none, none, none, none, none, none, none, none, none, none, none, some 125, some 93, some 105, some 104, some 109, some 111, some 110, none, none, none, none, none, none, some 126, none, none, none, none, none, none, none, none, none, none, none, none, none, none, none, none, none, none, none, none, none, none, none, none, none, none, none, none, none, none, none, none, none, none, none, none, none, none, none, none, none, none, none, none, none, none, none, none, none, none, none, none, none, none, none, none, none, none, none, none, none, none, none, none, none, none, none, none, none, none, none, none, none, none, none, none, none, none, none, none, none, none, none, none, none, none, none, none, none, none, none, none, none, none, none, none, none, none, none, none, none, none, none, none, none, none, none, none, none, some 112, none, none, none, some 108, none, none, none, none, none, none, none, none, none, none, some 116, some 123, some 127, none, none, none, none, none, none, none, none, none, none, none, none, none, none, none, none, none, none, none, none, none, none, none, none, none, none, none, none, none, none, none, none, none, none, none, some 4, none, none, none, none, none, none, none, none, none, none, none, none, none, none, none, none]
def fid : Nat → Option FuncId := fun g => fidL.getD g none
theorem hmix : Try.prog.follows .mixedOrders = true := by kernel_rfl
theorem hFl : fidL.all (fun o => match o with | some f => okF Try.prog f | none => true) = true := by kernel_rfl
theorem hF : ∀ g f, fid g = some f → okF Try.prog f = true := by
  intro g f h
  have := List.all_eq_true.1 hFl (some f) (by
    unfold fid at h
    rw [List.getD_eq_getElem?_getD] at h
    cases hg : fidL[g]? with
    | none => simp [hg] at h
    | some o => simp [hg] at h; subst h; exact List.mem_of_getElem? hg)
  exact this
abbrev G0 : Gl := ⟨fun _ => False, fun _ => none⟩
abbrev DD : Dn := Den Try.prog fid G0
theorem lk {g : Nat} {f : FuncId} {fn : Func} {st : List Tmp} {sf : SFn} (hg : fid g = some f) (hfn : Try.prog.funcs[f]? = some fn) (hm : mFn Try.prog fid st sf fn = true) {a : List V} {gi : List O} {r : V} {o : List O}
    (h : Body DD sf a gi r o) : DD g a gi r o :=
  fn_sound hmix (fun _ _ _ _ _ h => h) hF (fun id hid => by rw [hg] at hid; cases hid; exact hfn) hm h
theorem msspec_l32End : mFn Try.prog fid sspec_l32End_t sspec_l32End Try.f58 = true := by kernel_rfl
theorem msspec_l26Copy : mFn Try.prog fid sspec_l26Copy_t sspec_l26Copy Try.f59 = true := by kernel_rfl
theorem msspec_l32Dialed : mFn Try.prog fid sspec_l32Dialed_t sspec_l32Dialed Try.f60 = true := by kernel_rfl
theorem msspec_l32Copy : mFn Try.prog fid sspec_l32Copy_t sspec_l32Copy Try.f38 = true := by kernel_rfl
theorem msspec_l1In : mFn Try.prog fid sspec_l1In_t sspec_l1In Try.f69 = true := by kernel_rfl
theorem msspec_IsReserved : mFn Try.prog fid sspec_IsReserved_t sspec_IsReserved Try.f99 = true := by kernel_rfl
theorem msspec_l9Byte : mFn Try.prog fid sspec_l9Byte_t sspec_l9Byte Try.f114 = true := by kernel_rfl
theorem msspec_IsBox : mFn Try.prog fid sspec_IsBox_t sspec_IsBox Try.f87 = true := by kernel_rfl
theorem msspec_AreVersions : mFn Try.prog fid sspec_AreVersions_t sspec_AreVersions Try.f62 = true := by kernel_rfl
theorem msspec_IsEndpoint : mFn Try.prog fid sspec_IsEndpoint_t sspec_IsEndpoint Try.f61 = true := by kernel_rfl
theorem msspec_l32Tags : mFn Try.prog fid sspec_l32Tags_t sspec_l32Tags Try.f63 = true := by kernel_rfl
theorem msspec_IsValidKey : mFn Try.prog fid sspec_IsValidKey_t sspec_IsValidKey Try.f64 = true := by kernel_rfl
theorem msspec_IsRollout : mFn Try.prog fid sspec_IsRollout_t sspec_IsRollout Try.f65 = true := by kernel_rfl
theorem msspec_l9Has : mFn Try.prog fid sspec_l9Has_t sspec_l9Has Try.f66 = true := by kernel_rfl
theorem msspec_ListsOf : mFn Try.prog fid sspec_ListsOf_t sspec_ListsOf Try.f68 = true := by kernel_rfl
theorem msspec_CommonOf : mFn Try.prog fid sspec_CommonOf_t sspec_CommonOf Try.f122 = true := by kernel_rfl
theorem msspec_BestCommon : mFn Try.prog fid sspec_BestCommon_t sspec_BestCommon Try.f100 = true := by kernel_rfl
theorem msspec_AllReach : mFn Try.prog fid sspec_AllReach_t sspec_AllReach Try.f67 = true := by kernel_rfl
theorem msspec_IsWorld : mFn Try.prog fid sspec_IsWorld_t sspec_IsWorld Try.f39 = true := by kernel_rfl
theorem msspec_NewWorld : mFn Try.prog fid sspec_NewWorld_t sspec_NewWorld Try.f16 = true := by kernel_rfl
theorem msimpl_copyPath : mFn Try.prog fid simpl_copyPath_t simpl_copyPath Try.f102 = true := by kernel_rfl
theorem msimpl_copyEndpoint : mFn Try.prog fid simpl_copyEndpoint_t simpl_copyEndpoint Try.f72 = true := by kernel_rfl
theorem msimpl_copyRollout : mFn Try.prog fid simpl_copyRollout_t simpl_copyRollout Try.f71 = true := by kernel_rfl
theorem msimpl_copyDialed : mFn Try.prog fid simpl_copyDialed_t simpl_copyDialed Try.f73 = true := by kernel_rfl
theorem msimpl_copyWorld : mFn Try.prog fid simpl_copyWorld_t simpl_copyWorld Try.f41 = true := by kernel_rfl
theorem msimpl_ListsOf : mFn Try.prog fid simpl_ListsOf_t simpl_ListsOf Try.f75 = true := by kernel_rfl
theorem msimpl_InRange : mFn Try.prog fid simpl_InRange_t simpl_InRange Try.f83 = true := by kernel_rfl
theorem msimpl_AreVersions : mFn Try.prog fid simpl_AreVersions_t simpl_AreVersions Try.f103 = true := by kernel_rfl
theorem msslices_Index___int_int_ : mFn Try.prog fid sslices_Index___int_int__t sslices_Index___int_int_ Try.f112 = true := by kernel_rfl
theorem msslices_Contains___int_int_ : mFn Try.prog fid sslices_Contains___int_int__t sslices_Contains___int_int_ Try.f82 = true := by kernel_rfl
theorem msimpl_CommonOf : mFn Try.prog fid simpl_CommonOf_t simpl_CommonOf Try.f124 = true := by kernel_rfl
theorem msimpl_BestCommon : mFn Try.prog fid simpl_BestCommon_t simpl_BestCommon Try.f106 = true := by kernel_rfl
theorem msimpl_AllReach_1 : mFn Try.prog fid simpl_AllReach_1_t simpl_AllReach_1 Try.f105 = true := by kernel_rfl
theorem msslices_IndexFunc_____int___int_ : mFn Try.prog fid sslices_IndexFunc_____int___int__t sslices_IndexFunc_____int___int_ Try.f123 = true := by kernel_rfl
theorem msslices_ContainsFunc_____int___int_ : mFn Try.prog fid sslices_ContainsFunc_____int___int__t sslices_ContainsFunc_____int___int_ Try.f104 = true := by kernel_rfl
theorem msimpl_AllReach : mFn Try.prog fid simpl_AllReach_t simpl_AllReach Try.f74 = true := by kernel_rfl
theorem msimpl_areNumbers_1 : mFn Try.prog fid simpl_areNumbers_1_t simpl_areNumbers_1 Try.f125 = true := by kernel_rfl
theorem msslices_IndexFunc___int_int_ : mFn Try.prog fid sslices_IndexFunc___int_int__t sslices_IndexFunc___int_int_ Try.f116 = true := by kernel_rfl
theorem msslices_ContainsFunc___int_int_ : mFn Try.prog fid sslices_ContainsFunc___int_int__t sslices_ContainsFunc___int_int_ Try.f93 = true := by kernel_rfl
theorem msimpl_areNumbers : mFn Try.prog fid simpl_areNumbers_t simpl_areNumbers Try.f107 = true := by kernel_rfl
theorem msimpl_areTags : mFn Try.prog fid simpl_areTags_t simpl_areTags Try.f76 = true := by kernel_rfl
theorem msimpl_IsValidKey : mFn Try.prog fid simpl_IsValidKey_t simpl_IsValidKey Try.f77 = true := by kernel_rfl
theorem msimpl_IsReserved : mFn Try.prog fid simpl_IsReserved_t simpl_IsReserved Try.f126 = true := by kernel_rfl
theorem msimpl_IsHardened : mFn Try.prog fid simpl_IsHardened_t simpl_IsHardened Try.f109 = true := by kernel_rfl
theorem msimpl_IsBox : mFn Try.prog fid simpl_IsBox_t simpl_IsBox Try.f92 = true := by kernel_rfl
theorem msimpl_IsEndpoint_1 : mFn Try.prog fid simpl_IsEndpoint_1_t simpl_IsEndpoint_1 Try.f111 = true := by kernel_rfl
theorem msslices_IndexFunc___impl_Box_impl_Box_ : mFn Try.prog fid sslices_IndexFunc___impl_Box_impl_Box__t sslices_IndexFunc___impl_Box_impl_Box_ Try.f127 = true := by kernel_rfl
theorem msslices_ContainsFunc___impl_Box_impl_Box_ : mFn Try.prog fid sslices_ContainsFunc___impl_Box_impl_Box__t sslices_ContainsFunc___impl_Box_impl_Box_ Try.f110 = true := by kernel_rfl
theorem msimpl_IsEndpoint : mFn Try.prog fid simpl_IsEndpoint_t simpl_IsEndpoint Try.f80 = true := by kernel_rfl
theorem msimpl_IsWorld_1 : mFn Try.prog fid simpl_IsWorld_1_t simpl_IsWorld_1 Try.f79 = true := by kernel_rfl
theorem msslices_IndexFunc___impl_Endpoint_impl_Endpoint_ : mFn Try.prog fid sslices_IndexFunc___impl_Endpoint_impl_Endpoint__t sslices_IndexFunc___impl_Endpoint_impl_Endpoint_ Try.f108 = true := by kernel_rfl
theorem msslices_ContainsFunc___impl_Endpoint_impl_Endpoint_ : mFn Try.prog fid sslices_ContainsFunc___impl_Endpoint_impl_Endpoint__t sslices_ContainsFunc___impl_Endpoint_impl_Endpoint_ Try.f78 = true := by kernel_rfl
theorem msimpl_IsRollout : mFn Try.prog fid simpl_IsRollout_t simpl_IsRollout Try.f81 = true := by kernel_rfl
theorem msimpl_IsWorld : mFn Try.prog fid simpl_IsWorld_t simpl_IsWorld Try.f42 = true := by kernel_rfl
theorem msimpl_NewWorld : mFn Try.prog fid simpl_NewWorld_t simpl_NewWorld Try.f20 = true := by kernel_rfl
theorem mslaws_szIntS : mFn Try.prog fid slaws_szIntS_t slaws_szIntS Try.f26 = true := by kernel_rfl
theorem mslaws_szBox : mFn Try.prog fid slaws_szBox_t slaws_szBox Try.f98 = true := by kernel_rfl
theorem mslaws_szBoxS : mFn Try.prog fid slaws_szBoxS_t slaws_szBoxS Try.f57 = true := by kernel_rfl
theorem mslaws_szEndpoint : mFn Try.prog fid slaws_szEndpoint_t slaws_szEndpoint Try.f37 = true := by kernel_rfl
theorem mslaws_szEndpointS : mFn Try.prog fid slaws_szEndpointS_t slaws_szEndpointS Try.f14 = true := by kernel_rfl
theorem mslaws_szRollout : mFn Try.prog fid slaws_szRollout_t slaws_szRollout Try.f15 = true := by kernel_rfl
theorem mslaws_toIntS : mFn Try.prog fid slaws_toIntS_t slaws_toIntS Try.f17 = true := by kernel_rfl
theorem mslaws_toBox : mFn Try.prog fid slaws_toBox_t slaws_toBox Try.f101 = true := by kernel_rfl
theorem mslaws_toBoxS : mFn Try.prog fid slaws_toBoxS_t slaws_toBoxS Try.f70 = true := by kernel_rfl
theorem mslaws_toEndpoint : mFn Try.prog fid slaws_toEndpoint_t slaws_toEndpoint Try.f40 = true := by kernel_rfl
theorem mslaws_toEndpointS : mFn Try.prog fid slaws_toEndpointS_t slaws_toEndpointS Try.f18 = true := by kernel_rfl
theorem mslaws_toRollout : mFn Try.prog fid slaws_toRollout_t slaws_toRollout Try.f19 = true := by kernel_rfl
theorem mslaws_eqIntS : mFn Try.prog fid slaws_eqIntS_t slaws_eqIntS Try.f9 = true := by kernel_rfl
theorem mslaws_eqBox : mFn Try.prog fid slaws_eqBox_t slaws_eqBox Try.f113 = true := by kernel_rfl
theorem mslaws_eqBoxS : mFn Try.prog fid slaws_eqBoxS_t slaws_eqBoxS Try.f84 = true := by kernel_rfl
theorem mslaws_eqEndpoint : mFn Try.prog fid slaws_eqEndpoint_t slaws_eqEndpoint Try.f43 = true := by kernel_rfl
theorem mslaws_eqEndpointS : mFn Try.prog fid slaws_eqEndpointS_t slaws_eqEndpointS Try.f21 = true := by kernel_rfl
theorem mslaws_eqRollout : mFn Try.prog fid slaws_eqRollout_t slaws_eqRollout Try.f22 = true := by kernel_rfl
theorem mslaws_eqDeal : mFn Try.prog fid slaws_eqDeal_t slaws_eqDeal Try.f97 = true := by kernel_rfl
theorem mslaws_eqDialed : mFn Try.prog fid slaws_eqDialed_t slaws_eqDialed Try.f55 = true := by kernel_rfl
theorem mslaws_eqDialedS : mFn Try.prog fid slaws_eqDialedS_t slaws_eqDialedS Try.f33 = true := by kernel_rfl
theorem mslaws_eqLogged : mFn Try.prog fid slaws_eqLogged_t slaws_eqLogged Try.f56 = true := by kernel_rfl
theorem mslaws_eqLoggedS : mFn Try.prog fid slaws_eqLoggedS_t slaws_eqLoggedS Try.f34 = true := by kernel_rfl
theorem mslaws_eqWorld : mFn Try.prog fid slaws_eqWorld_t slaws_eqWorld Try.f10 = true := by kernel_rfl
theorem mslaws_markIntS : mFn Try.prog fid slaws_markIntS_t slaws_markIntS Try.f12 = true := by kernel_rfl
theorem mslaws_markBoxS : mFn Try.prog fid slaws_markBoxS_t slaws_markBoxS Try.f44 = true := by kernel_rfl
theorem mslaws_markEndpointS : mFn Try.prog fid slaws_markEndpointS_t slaws_markEndpointS Try.f23 = true := by kernel_rfl
theorem mslaws_markRollout : mFn Try.prog fid slaws_markRollout_t slaws_markRollout Try.f24 = true := by kernel_rfl
theorem mslaws_markDialedS : mFn Try.prog fid slaws_markDialedS_t slaws_markDialedS Try.f35 = true := by kernel_rfl
theorem mslaws_markLoggedS : mFn Try.prog fid slaws_markLoggedS_t slaws_markLoggedS Try.f36 = true := by kernel_rfl
theorem mslaws_markWorld : mFn Try.prog fid slaws_markWorld_t slaws_markWorld Try.f11 = true := by kernel_rfl
theorem mslaws_heldIntS : mFn Try.prog fid slaws_heldIntS_t slaws_heldIntS Try.f13 = true := by kernel_rfl
theorem mslaws_heldBoxS : mFn Try.prog fid slaws_heldBoxS_t slaws_heldBoxS Try.f85 = true := by kernel_rfl
theorem mslaws_heldEndpointS : mFn Try.prog fid slaws_heldEndpointS_t slaws_heldEndpointS Try.f45 = true := by kernel_rfl
theorem mslaws_heldRollout : mFn Try.prog fid slaws_heldRollout_t slaws_heldRollout Try.f46 = true := by kernel_rfl
theorem mslaws_heldDialedS : mFn Try.prog fid slaws_heldDialedS_t slaws_heldDialedS Try.f47 = true := by kernel_rfl
theorem mslaws_heldLoggedS : mFn Try.prog fid slaws_heldLoggedS_t slaws_heldLoggedS Try.f48 = true := by kernel_rfl
theorem mslaws_heldWorld : mFn Try.prog fid slaws_heldWorld_t slaws_heldWorld Try.f25 = true := by kernel_rfl
theorem mslaws_FnExactNewWorld : mFn Try.prog fid slaws_FnExactNewWorld_t slaws_FnExactNewWorld Try.f4 = true := by kernel_rfl
theorem dcpEndpointS_65 : cpEndpointS (DD 65) := by unfold cpEndpointS; intros; refine lk (g := 65) rfl Try.func58 msspec_l32End ?_; apply l32End_b _  <;> assumption
theorem dcpRolloutS_66 : cpRolloutS (DD 66) := by unfold cpRolloutS; intros; refine lk (g := 66) rfl Try.func59 msspec_l26Copy ?_; apply l26Copy_b _  <;> assumption
theorem dcpDialedS_67 : cpDialedS (DD 67) := by unfold cpDialedS; intros; refine lk (g := 67) rfl Try.func60 msspec_l32Dialed ?_; apply l32Dialed_b _  <;> assumption
theorem dcpWorldS_22 : cpWorldS (DD 22) := by unfold cpWorldS; intros; refine lk (g := 22) rfl Try.func38 msspec_l32Copy ?_; apply l32Copy_b _ dcpEndpointS_65 dcpRolloutS_66 dcpDialedS_67 <;> assumption
theorem dInS_71 : InS (DD 71) := by unfold InS; intros; refine lk (g := 71) rfl Try.func69 msspec_l1In ?_; apply l1In_b _  <;> assumption
theorem dIsReservedS_250 : IsReservedS (DD 250) := by unfold IsReservedS; intros; refine lk (g := 250) rfl Try.func99 msspec_IsReserved ?_; apply sIsReserved_b _ dInS_71 <;> assumption
theorem dl9ByteS_217 : l9ByteS (DD 217) := by unfold l9ByteS; intros; refine lk (g := 217) rfl Try.func114 msspec_l9Byte ?_; apply l9Byte_b _ dInS_71 <;> assumption
theorem dIsBoxS_152 : IsBoxS (DD 152) := by unfold IsBoxS; intros; refine lk (g := 152) rfl Try.func87 msspec_IsBox ?_; apply sIsBox_b _ dInS_71 dl9ByteS_217 <;> assumption
theorem dAreVersionsS_208 : AreVersionsS (DD 208) := by unfold AreVersionsS; intros; refine lk (g := 208) rfl Try.func62 msspec_AreVersions ?_; apply sAreVersions_b _ dInS_71 <;> assumption
theorem dIsEndpointS_207 : IsEndpointS (DD 207) := by unfold IsEndpointS; intros; refine lk (g := 207) rfl Try.func61 msspec_IsEndpoint ?_; apply sIsEndpoint_b _ dInS_71 dIsReservedS_250 dIsBoxS_152 dAreVersionsS_208 <;> assumption
theorem dAreTagsS_209 : AreTagsS (DD 209) := by unfold AreTagsS; intros; refine lk (g := 209) rfl Try.func63 msspec_l32Tags ?_; apply sl32Tags_b _ dInS_71 <;> assumption
theorem dValidKeyS_210 : ValidKeyS (DD 210) := by unfold ValidKeyS; intros; refine lk (g := 210) rfl Try.func64 msspec_IsValidKey ?_; apply sValidKey_b _ dInS_71 <;> assumption
theorem dIsRolloutS_145 : IsRolloutS (DD 145) := by unfold IsRolloutS; intros; refine lk (g := 145) rfl Try.func65 msspec_IsRollout ?_; apply sIsRollout_b _ dInS_71 <;> assumption
theorem dHasS_166 : HasS (DD 166) := by unfold HasS; intros; refine lk (g := 166) rfl Try.func66 msspec_l9Has ?_; apply l9Has_b _  <;> assumption
theorem dListsOfS_95 : ListsOfS (DD 95) := by unfold ListsOfS; intros; refine lk (g := 95) rfl Try.func68 msspec_ListsOf ?_; apply sListsOf_b _  <;> assumption
theorem dCommonOfS_224 : CommonOfS (DD 224) := by unfold CommonOfS; intros; refine lk (g := 224) rfl Try.func122 msspec_CommonOf ?_; apply sCommonOf_b _ dHasS_166 <;> assumption
theorem dBestCommonS_168 : BestCommonS (DD 168) := by unfold BestCommonS; intros; refine lk (g := 168) rfl Try.func100 msspec_BestCommon ?_; apply sBestCommon_b _ dCommonOfS_224 dAreVersionsS_208 <;> assumption
theorem dAllReachS_211 : AllReachS (DD 211) := by unfold AllReachS; intros; refine lk (g := 211) rfl Try.func67 msspec_AllReach ?_; apply sAllReach_b _ dBestCommonS_168 dAreVersionsS_208 <;> assumption
theorem dIsWorldS_141 : IsWorldS (DD 141) := by unfold IsWorldS; intros; refine lk (g := 141) rfl Try.func39 msspec_IsWorld ?_; apply sIsWorld_b _ dIsEndpointS_207 dAreVersionsS_208 dAreTagsS_209 dValidKeyS_210 dIsRolloutS_145 dHasS_166 dListsOfS_95 dAllReachS_211 dInS_71 <;> assumption
theorem dNewWorldS_70 : NewWorldS (DD 70) := by unfold NewWorldS; intros; refine lk (g := 70) rfl Try.func16 msspec_NewWorld ?_; apply sNewWorld_b _ dcpWorldS_22 dIsWorldS_141 <;> assumption
theorem dcpPathS_172 : cpPathS (DD 172) := by unfold cpPathS; intros; refine lk (g := 172) rfl Try.func102 msimpl_copyPath ?_; apply copyPath_b _  <;> assumption
theorem dcpEndpointS_102 : cpEndpointS (DD 102) := by unfold cpEndpointS; intros; refine lk (g := 102) rfl Try.func72 msimpl_copyEndpoint ?_; apply copyEndpoint_b _ dcpPathS_172 <;> assumption
theorem dcpRolloutS_101 : cpRolloutS (DD 101) := by unfold cpRolloutS; intros; refine lk (g := 101) rfl Try.func71 msimpl_copyRollout ?_; apply copyRollout_b _  <;> assumption
theorem dcpDialedS_103 : cpDialedS (DD 103) := by unfold cpDialedS; intros; refine lk (g := 103) rfl Try.func73 msimpl_copyDialed ?_; apply copyDialed_b _  <;> assumption
theorem dcpWorldS_38 : cpWorldS (DD 38) := by unfold cpWorldS; intros; refine lk (g := 38) rfl Try.func41 msimpl_copyWorld ?_; apply copyWorld_b _ dcpEndpointS_102 dcpRolloutS_101 dcpDialedS_103 <;> assumption
theorem dListsOfS_123 : ListsOfS (DD 123) := by unfold ListsOfS; intros; refine lk (g := 123) rfl Try.func75 msimpl_ListsOf ?_; apply iListsOf_b _  <;> assumption
theorem dInS_114 : InS (DD 114) := by unfold InS; intros; refine lk (g := 114) rfl Try.func83 msimpl_InRange ?_; apply InRange_b _  <;> assumption
theorem dAreVersionsS_232 : AreVersionsS (DD 232) := by unfold AreVersionsS; intros; refine lk (g := 232) rfl Try.func103 msimpl_AreVersions ?_; apply iAreVersions_b _ dInS_114 <;> assumption
theorem dIndexS_389 : IndexS (DD 389) := by unfold IndexS; intros; refine lk (g := 389) rfl Try.func112 msslices_Index___int_int_ ?_; apply Index_b _  <;> assumption
theorem dHasS_188 : HasS (DD 188) := by unfold HasS; intros; refine lk (g := 188) rfl Try.func82 msslices_Contains___int_int_ ?_; apply Contains_b _ dIndexS_389 <;> assumption
theorem dCommonOfS_242 : CommonOfS (DD 242) := by unfold CommonOfS; intros; refine lk (g := 242) rfl Try.func124 msimpl_CommonOf ?_; apply iCommonOf_b _ dHasS_188 <;> assumption
theorem dBestCommonS_190 : BestCommonS (DD 190) := by unfold BestCommonS; intros; refine lk (g := 190) rfl Try.func106 msimpl_BestCommon ?_; apply iBestCommon_b _ dCommonOfS_242 dAreVersionsS_232 <;> assumption
theorem dAllReach1S_268 : AllReach1S (DD 268) := by unfold AllReach1S; intros; refine lk (g := 268) rfl Try.func105 msimpl_AllReach_1 ?_; apply AllReach1_b _ dBestCommonS_190 <;> assumption
theorem dIndexFuncRowsS_405 : IndexFuncRowsS DD (DD 405) := by unfold IndexFuncRowsS; intros; refine lk (g := 405) rfl Try.func123 msslices_IndexFunc_____int___int_ ?_; apply IndexFuncRows_b _  <;> assumption
theorem dContainsFuncRowsS_269 : ContainsFuncRowsS DD (DD 269) := by unfold ContainsFuncRowsS; intros; refine lk (g := 269) rfl Try.func104 msslices_ContainsFunc_____int___int_ ?_; apply ContainsFuncRows_b _ dIndexFuncRowsS_405 <;> assumption
theorem dAllReachS_234 : AllReachS (DD 234) := by unfold AllReachS; intros; refine lk (g := 234) rfl Try.func74 msimpl_AllReach ?_; apply iAllReach_b _ dAreVersionsS_232 dAllReach1S_268 dContainsFuncRowsS_269 <;> assumption
theorem dareNumbers1S_266 : areNumbers1S (DD 266) := by unfold areNumbers1S; intros; refine lk (g := 266) rfl Try.func125 msimpl_areNumbers_1 ?_; apply areNumbers1_b _ dInS_114 <;> assumption
theorem dIndexFuncS_404 : IndexFuncS DD (DD 404) := by unfold IndexFuncS; intros; refine lk (g := 404) rfl Try.func116 msslices_IndexFunc___int_int_ ?_; apply IndexFunc_b _  <;> assumption
theorem dContainsFuncS_267 : ContainsFuncS DD (DD 267) := by unfold ContainsFuncS; intros; refine lk (g := 267) rfl Try.func93 msslices_ContainsFunc___int_int_ ?_; apply ContainsFunc_b _ dIndexFuncS_404 <;> assumption
theorem dareNumbersS_233 : areNumbersS (DD 233) := by unfold areNumbersS; intros; refine lk (g := 233) rfl Try.func107 msimpl_areNumbers ?_; apply areNumbers_b _ dareNumbers1S_266 dContainsFuncS_267 <;> assumption
theorem dAreTagsS_235 : AreTagsS (DD 235) := by unfold AreTagsS; intros; refine lk (g := 235) rfl Try.func76 msimpl_areTags ?_; apply iareTags_b _ dareNumbersS_233 <;> assumption
theorem dValidKeyS_236 : ValidKeyS (DD 236) := by unfold ValidKeyS; intros; refine lk (g := 236) rfl Try.func77 msimpl_IsValidKey ?_; apply iValidKey_b _ dInS_114 <;> assumption
theorem dIsReservedS_279 : IsReservedS (DD 279) := by unfold IsReservedS; intros; refine lk (g := 279) rfl Try.func126 msimpl_IsReserved ?_; apply iIsReserved_b _ dInS_114 <;> assumption
theorem dIsHardenedS_270 : IsHardenedS (DD 270) := by unfold IsHardenedS; intros; refine lk (g := 270) rfl Try.func109 msimpl_IsHardened ?_; apply iIsHardened_b _ dIsReservedS_279 dContainsFuncS_267 <;> assumption
theorem dIsBoxS_183 : IsBoxS (DD 183) := by unfold IsBoxS; intros; refine lk (g := 183) rfl Try.func92 msimpl_IsBox ?_; apply iIsBox_b _ dInS_114 dareNumbersS_233 <;> assumption
theorem dIsEndpoint1S_271 : IsEndpoint1S (DD 271) := by unfold IsEndpoint1S; intros; refine lk (g := 271) rfl Try.func111 msimpl_IsEndpoint_1 ?_; apply IsEndpoint1_b _ dIsBoxS_183 <;> assumption
theorem dIndexFuncBoxS_406 : IndexFuncBoxS DD (DD 406) := by unfold IndexFuncBoxS; intros; refine lk (g := 406) rfl Try.func127 msslices_IndexFunc___impl_Box_impl_Box_ ?_; apply IndexFuncBox_b _  <;> assumption
theorem dContainsFuncBoxS_272 : ContainsFuncBoxS DD (DD 272) := by unfold ContainsFuncBoxS; intros; refine lk (g := 272) rfl Try.func110 msslices_ContainsFunc___impl_Box_impl_Box_ ?_; apply ContainsFuncBox_b _ dIndexFuncBoxS_406 <;> assumption
theorem dIsEndpointS_239 : IsEndpointS (DD 239) := by unfold IsEndpointS; intros; refine lk (g := 239) rfl Try.func80 msimpl_IsEndpoint ?_; apply iIsEndpoint_b _ dAreVersionsS_232 dAreTagsS_235 dIsHardenedS_270 dIsEndpoint1S_271 dContainsFuncBoxS_272 dInS_114 <;> assumption
theorem dIsWorld1S_237 : IsWorld1S (DD 237) := by unfold IsWorld1S; intros; refine lk (g := 237) rfl Try.func79 msimpl_IsWorld_1 ?_; apply IsWorld1_b _ dIsEndpointS_239 <;> assumption
theorem dIndexFuncEndpointS_393 : IndexFuncEndpointS DD (DD 393) := by unfold IndexFuncEndpointS; intros; refine lk (g := 393) rfl Try.func108 msslices_IndexFunc___impl_Endpoint_impl_Endpoint_ ?_; apply IndexFuncEndpoint_b _  <;> assumption
theorem dContainsFuncEndpointS_238 : ContainsFuncEndpointS DD (DD 238) := by unfold ContainsFuncEndpointS; intros; refine lk (g := 238) rfl Try.func78 msslices_ContainsFunc___impl_Endpoint_impl_Endpoint_ ?_; apply ContainsFuncEndpoint_b _ dIndexFuncEndpointS_393 <;> assumption
theorem dIsRolloutS_176 : IsRolloutS (DD 176) := by unfold IsRolloutS; intros; refine lk (g := 176) rfl Try.func81 msimpl_IsRollout ?_; apply iIsRollout_b _ dInS_114 <;> assumption
theorem dIsWorldS_184 : IsWorldS (DD 184) := by unfold IsWorldS; intros; refine lk (g := 184) rfl Try.func42 msimpl_IsWorld ?_; apply iIsWorld_b _ dListsOfS_123 dAllReachS_234 dAreTagsS_235 dValidKeyS_236 dIsWorld1S_237 dContainsFuncEndpointS_238 dIsRolloutS_176 dHasS_188 dInS_114 <;> assumption
theorem dNewWorldS_116 : NewWorldS (DD 116) := by unfold NewWorldS; intros; refine lk (g := 116) rfl Try.func20 msimpl_NewWorld ?_; apply iNewWorld_b _ dcpWorldS_38 dIsWorldS_184 <;> assumption
theorem dszIntSS_16 : szIntSS (DD 16) := by unfold szIntSS; intros; refine lk (g := 16) rfl Try.func26 mslaws_szIntS ?_; apply szIntS_b _  <;> assumption
theorem dszBoxS_206 : szBoxS (DD 206) := by unfold szBoxS; intros; refine lk (g := 206) rfl Try.func98 mslaws_szBox ?_; apply szBox_b _ dszIntSS_16 <;> assumption
theorem dszBoxSS_139 : szBoxSS (DD 139) := by unfold szBoxSS; intros; refine lk (g := 139) rfl Try.func57 mslaws_szBoxS ?_; apply szBoxS_b _ dszBoxS_206 <;> assumption
theorem dszEndpointS_62 : szEndpointS (DD 62) := by unfold szEndpointS; intros; refine lk (g := 62) rfl Try.func37 mslaws_szEndpoint ?_; apply szEndpoint_b _ dszIntSS_16 dszBoxSS_139 <;> assumption
theorem dszEndpointSS_17 : szEndpointSS (DD 17) := by unfold szEndpointSS; intros; refine lk (g := 17) rfl Try.func14 mslaws_szEndpointS ?_; apply szEndpointS_b _ dszEndpointS_62 <;> assumption
theorem dszRolloutS_18 : szRolloutS (DD 18) := by unfold szRolloutS; intros; refine lk (g := 18) rfl Try.func15 mslaws_szRollout ?_; apply szRollout_b _ dszIntSS_16 <;> assumption
theorem dtoIntSS_31 : toIntSS (DD 31) := by unfold toIntSS; intros; refine lk (g := 31) rfl Try.func17 mslaws_toIntS ?_; apply toIntS_b _  <;> assumption
theorem dtoBoxS_226 : toBoxS (DD 226) := by unfold toBoxS; intros; refine lk (g := 226) rfl Try.func101 mslaws_toBox ?_; apply toBox_b _ dtoIntSS_31 <;> assumption
theorem dtoBoxSS_170 : toBoxSS (DD 170) := by unfold toBoxSS; intros; refine lk (g := 170) rfl Try.func70 mslaws_toBoxS ?_; apply toBoxS_b _ dtoBoxS_226 <;> assumption
theorem dtoEndpointS_98 : toEndpointS (DD 98) := by unfold toEndpointS; intros; refine lk (g := 98) rfl Try.func40 mslaws_toEndpoint ?_; apply toEndpoint_b _ dtoIntSS_31 dtoBoxSS_170 <;> assumption
theorem dtoEndpointSS_32 : toEndpointSS (DD 32) := by unfold toEndpointSS; intros; refine lk (g := 32) rfl Try.func18 mslaws_toEndpointS ?_; apply toEndpointS_b _ dtoEndpointS_98 <;> assumption
theorem dtoRolloutS_33 : toRolloutS (DD 33) := by unfold toRolloutS; intros; refine lk (g := 33) rfl Try.func19 mslaws_toRollout ?_; apply toRollout_b _ dtoIntSS_31 <;> assumption
theorem deqIntSS_47 : eqIntSS (DD 47) := by unfold eqIntSS; intros; refine lk (g := 47) rfl Try.func9 mslaws_eqIntS ?_; apply eqIntS_b _  <;> assumption
theorem deqBoxS_249 : eqBoxS (DD 249) := by unfold eqBoxS; intros; refine lk (g := 249) rfl Try.func113 mslaws_eqBox ?_; apply eqBox_b _ deqIntSS_47 <;> assumption
theorem deqBoxSS_204 : eqBoxSS (DD 204) := by unfold eqBoxSS; intros; refine lk (g := 204) rfl Try.func84 mslaws_eqBoxS ?_; apply eqBoxS_b _ deqBoxS_249 <;> assumption
theorem deqEndpointS_134 : eqEndpointS (DD 134) := by unfold eqEndpointS; intros; refine lk (g := 134) rfl Try.func43 mslaws_eqEndpoint ?_; apply eqEndpoint_b _ deqIntSS_47 deqBoxSS_204 <;> assumption
theorem deqEndpointSS_48 : eqEndpointSS (DD 48) := by unfold eqEndpointSS; intros; refine lk (g := 48) rfl Try.func21 mslaws_eqEndpointS ?_; apply eqEndpointS_b _ deqEndpointS_134 <;> assumption
theorem deqRolloutS_49 : eqRolloutS (DD 49) := by unfold eqRolloutS; intros; refine lk (g := 49) rfl Try.func22 mslaws_eqRollout ?_; apply eqRollout_b _ deqIntSS_47 <;> assumption
theorem deqDealS_205 : eqDealS (DD 205) := by unfold eqDealS; intros; refine lk (g := 205) rfl Try.func97 mslaws_eqDeal ?_; apply eqDeal_b _ deqIntSS_47 <;> assumption
theorem deqDialedS_135 : eqDialedS (DD 135) := by unfold eqDialedS; intros; refine lk (g := 135) rfl Try.func55 mslaws_eqDialed ?_; apply eqDialed_b _ deqDealS_205 deqIntSS_47 <;> assumption
theorem deqDialedSS_50 : eqDialedSS (DD 50) := by unfold eqDialedSS; intros; refine lk (g := 50) rfl Try.func33 mslaws_eqDialedS ?_; apply eqDialedS_b _ deqDialedS_135 <;> assumption
theorem deqLoggedS_136 : eqLoggedS (DD 136) := by unfold eqLoggedS; intros; refine lk (g := 136) rfl Try.func56 mslaws_eqLogged ?_; apply eqLogged_b _ deqDialedS_135 <;> assumption
theorem deqLoggedSS_51 : eqLoggedSS (DD 51) := by unfold eqLoggedSS; intros; refine lk (g := 51) rfl Try.func34 mslaws_eqLoggedS ?_; apply eqLoggedS_b _ deqLoggedS_136 <;> assumption
theorem deqWorldS_11 : eqWorldS (DD 11) := by unfold eqWorldS; intros; refine lk (g := 11) rfl Try.func10 mslaws_eqWorld ?_; apply eqWorld_b _ deqIntSS_47 deqEndpointSS_48 deqRolloutS_49 deqDialedSS_50 deqLoggedSS_51 <;> assumption
theorem dmarkIntSS_52 : markIntSS (DD 52) := by unfold markIntSS; intros; refine lk (g := 52) rfl Try.func12 mslaws_markIntS ?_; apply markIntS_b _  <;> assumption
theorem dmarkBoxSS_137 : markBoxSS (DD 137) := by unfold markBoxSS; intros; refine lk (g := 137) rfl Try.func44 mslaws_markBoxS ?_; apply markBoxS_b _ dmarkIntSS_52 <;> assumption
theorem dmarkEndpointSS_53 : markEndpointSS (DD 53) := by unfold markEndpointSS; intros; refine lk (g := 53) rfl Try.func23 mslaws_markEndpointS ?_; apply markEndpointS_b _ dmarkIntSS_52 dmarkBoxSS_137 <;> assumption
theorem dmarkRolloutS_54 : markRolloutS (DD 54) := by unfold markRolloutS; intros; refine lk (g := 54) rfl Try.func24 mslaws_markRollout ?_; apply markRollout_b _ dmarkIntSS_52 <;> assumption
theorem dmarkDialedSS_55 : markDialedSS (DD 55) := by unfold markDialedSS; intros; refine lk (g := 55) rfl Try.func35 mslaws_markDialedS ?_; apply markDialedS_b _ dmarkIntSS_52 <;> assumption
theorem dmarkLoggedSS_56 : markLoggedSS (DD 56) := by unfold markLoggedSS; intros; refine lk (g := 56) rfl Try.func36 mslaws_markLoggedS ?_; apply markLoggedS_b _ dmarkIntSS_52 <;> assumption
theorem dmarkWorldS_12 : markWorldS (DD 12) := by unfold markWorldS; intros; refine lk (g := 12) rfl Try.func11 mslaws_markWorld ?_; apply markWorld_b _ dmarkIntSS_52 dmarkEndpointSS_53 dmarkRolloutS_54 dmarkDialedSS_55 dmarkLoggedSS_56 <;> assumption
theorem dheldIntSS_57 : heldIntSS (DD 57) := by unfold heldIntSS; intros; refine lk (g := 57) rfl Try.func13 mslaws_heldIntS ?_; apply heldIntS_b _  <;> assumption
theorem dheldBoxSS_138 : heldBoxSS (DD 138) := by unfold heldBoxSS; intros; refine lk (g := 138) rfl Try.func85 mslaws_heldBoxS ?_; apply heldBoxS_b _ dheldIntSS_57 <;> assumption
theorem dheldEndpointSS_58 : heldEndpointSS (DD 58) := by unfold heldEndpointSS; intros; refine lk (g := 58) rfl Try.func45 mslaws_heldEndpointS ?_; apply heldEndpointS_b _ dheldIntSS_57 dheldBoxSS_138 <;> assumption
theorem dheldRolloutS_59 : heldRolloutS (DD 59) := by unfold heldRolloutS; intros; refine lk (g := 59) rfl Try.func46 mslaws_heldRollout ?_; apply heldRollout_b _ dheldIntSS_57 <;> assumption
theorem dheldDialedSS_60 : heldDialedSS (DD 60) := by unfold heldDialedSS; intros; refine lk (g := 60) rfl Try.func47 mslaws_heldDialedS ?_; apply heldDialedS_b _ dheldIntSS_57 <;> assumption
theorem dheldLoggedSS_61 : heldLoggedSS (DD 61) := by unfold heldLoggedSS; intros; refine lk (g := 61) rfl Try.func48 mslaws_heldLoggedS ?_; apply heldLoggedS_b _ dheldIntSS_57 <;> assumption
theorem dheldWorldS_13 : heldWorldS (DD 13) := by unfold heldWorldS; intros; refine lk (g := 13) rfl Try.func25 mslaws_heldWorld ?_; apply heldWorld_b _ dheldIntSS_57 dheldEndpointSS_58 dheldRolloutS_59 dheldDialedSS_60 dheldLoggedSS_61 <;> assumption
theorem dFnExactNewWorldS_442 : FnExactNewWorldS (DD 442) := by unfold FnExactNewWorldS; intros; refine lk (g := 442) rfl Try.func4 mslaws_FnExactNewWorld ?_; apply FnExactNewWorld_b _ dNewWorldS_70 dNewWorldS_116 dszEndpointSS_17 dszRolloutS_18 dtoIntSS_31 dtoEndpointSS_32 dtoRolloutS_33 deqWorldS_11 deqIntSS_47 deqEndpointSS_48 deqRolloutS_49 dmarkIntSS_52 dmarkEndpointSS_53 dmarkRolloutS_54 dmarkWorldS_12 dheldWorldS_13 <;> assumption
theorem den (av : List V) (h : ArgsV [.sl (.int .i64), .sl (.int .i64), .sl tyEndpoint, tyRollout] av) : DD 442 av [] (B true) [] := by
  obtain ⟨v0, r0, h0, hr0, rfl⟩ := h
  obtain ⟨x0, rfl, l0, w0⟩ := argInts h0
  obtain ⟨v1, r1, h1, hr1, rfl⟩ := hr0
  obtain ⟨x1, rfl, l1, w1⟩ := argInts h1
  obtain ⟨v2, r2, h2, hr2, rfl⟩ := hr1
  obtain ⟨x2, rfl, l2, w2⟩ := argEndpointS h2
  obtain ⟨v3, r3, h3, hr3, rfl⟩ := hr2
  obtain ⟨x3, rfl, l3, w3⟩ := argRollout h3
  have z : r3 = [] := hr3
  subst z
  apply dFnExactNewWorldS_442 <;> assumption
end Go.Eng.T

