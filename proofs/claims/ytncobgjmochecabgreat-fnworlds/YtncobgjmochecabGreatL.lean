/- Own work: part 50 of the proof of FnWorlds. -/
import Derived.Test.YtncobgjmochecabGreatP49
import Derived.Test.YtncobgjmochecabGreatProg
import Derived.KernelRfl
set_option linter.unusedSimpArgs false
set_option linter.unusedVariables false
namespace Go.Eng.T
open Go.Proofs
set_option maxRecDepth 100000
def fidL : List (Option Nat) := [none, none, none, none, none, none, none, none, none, none, none, none, none, none, none, none, none, none, none, none, none, none, some 73, none, none, none, none, none, none, none, none, none, none, none, none, none, none, none, some 57, none, none, none, none, none, none, none, none, none, none, none, none, none, none, none, none, none, none, none, none, none, none, none, none, none, none, some 115, some 116, some 117, none, none, some 136, some 85, none, none, none, none, none, none, none, none, none, none, none, none, none, none, none, none, none, none, none, none, none, none, none, some 166, none, none, none, none, none, some 101, some 102, some 103, none, none, none, none, none, none, none, none, none, none, some 65, none, some 16, some 71, none, none, none, none, none, some 19, none, none, none, none, none, none, none, none, none, none, none, none, none, none, none, none, none, some 149, none, none, none, some 164, none, none, none, none, none, none, some 151, none, none, none, none, none, none, some 51, none, none, none, none, none, none, some 158, none, some 141, none, none, none, some 131, none, none, none, some 63, none, none, none, none, none, none, some 109, some 17, none, none, none, some 64, none, some 69, none, none, none, none, none, none, none, none, none, none, none, none, none, none, none, none, some 137, some 152, some 162, some 163, some 165, none, some 114, none, none, none, some 167, none, none, none, none, some 143, some 142, some 157, none, none, none, none, none, none, none, some 66, some 104, some 18, some 58, some 59, some 61, some 60, some 62, none, none, some 112, none, none, none, none, none, none, none, some 150, some 139, some 138, none, none, none, some 184, none, some 191, none, some 159, none, none, none, none, none, some 133, some 132, some 68, some 67, some 106, some 108, some 107, none, none, none, none, none, none, some 134, some 153, some 154, some 155, some 156, none, some 168, some 172, none, none, none, none, none, none, none, none, none, none, none, none, none, some 169, some 170, some 171, some 173, some 174, some 176, some 177, some 175, some 178, some 179, some 180, some 181, some 182, some 183, none, none, none, none, none, none, none, none, none, none, none, none, none, none, some 188, some 190, some 189, some 193, some 192, some 194, some 195, some 197, some 196, some 198, some 200, some 199, none, none, none, none, none, none, none, none, none, none, none, none, none, none, none, some 207, some 208, some 72, none, none, none, none, none, none, none, none, none, none, none, none, none, none, none, none, none, none, none, none, none, none, none, none, none, none, none, none, none, none, none, some 110, none, none, none, some 105, none, none, none, none, none, none, none, none, none, none, some 148, some 111, some 135, none, none, none, none, none, none, none, none, none, none, none, none, none, none, none, none, none, none, none, none, none, none, none, none, none, none, none, none, none, none, none, none, none, none, none, none, none, none, none, none, none, none, none, none, none, none, none, none, none, none, none, none, none, some 14, none, none, none, none, none, none, none, none, none, some 21, none, none, some 47, some 52, some 70, none, none, some 49, some 113, some 99, some 98, some 53, some 55, none, none, some 96, some 54, some 50, some 56, some 48, some 100, none, some 97, some 130, some 4, some 15, some 20, some 22, some 23, some 24, some 74, some 75, some 119, some 118, some 76, some 77, some 78, some 120, some 79, some 80, none]
def fid : Nat → Option FuncId := fun g => fidL.getD g none
theorem hmix : Tryz.prog.follows .mixedOrders = true := by kernel_rfl
theorem hFl : fidL.all (fun o => match o with | some f => okF Tryz.prog f | none => true) = true := by kernel_rfl
theorem hF : ∀ g f, fid g = some f → okF Tryz.prog f = true := by
  intro g f h
  have := List.all_eq_true.1 hFl (some f) (by
    unfold fid at h
    rw [List.getD_eq_getElem?_getD] at h
    cases hg : fidL[g]? with
    | none => simp [hg] at h
    | some o => simp [hg] at h; subst h; exact List.mem_of_getElem? hg)
  exact this
variable {G0 : Gl}
abbrev DE (G0 : Gl) : Dn := Den Tryz.prog fid G0
theorem lk {g : Nat} {f : FuncId} {fn : Func} {st : List Tmp} {sf : SFn} (hg : fid g = some f) (hfn : Tryz.prog.funcs[f]? = some fn) (hm : mFn Tryz.prog fid st sf fn = true) {a : List V} {gi : List O} {r : V} {o : List O}
    (h : Body (DE G0) sf a gi r o) : (DE G0) g a gi r o :=
  fn_sound hmix (fun _ _ _ _ _ h => h) hF (fun id hid => by rw [hg] at hid; cases hid; exact hfn) hm h
theorem mslaws_big : mFn Tryz.prog fid slaws_big_t slaws_big Tryz.f14 = true := by kernel_rfl
theorem msspec_l1New : mFn Tryz.prog fid sspec_l1New_t sspec_l1New Tryz.f47 = true := by kernel_rfl
theorem msspec_l1Byte : mFn Tryz.prog fid sspec_l1Byte_t sspec_l1Byte Tryz.f96 = true := by kernel_rfl
theorem msspec_l1Below : mFn Tryz.prog fid sspec_l1Below_t sspec_l1Below Tryz.f49 = true := by kernel_rfl
theorem msspec_l1Once : mFn Tryz.prog fid sspec_l1Once_t sspec_l1Once Tryz.f52 = true := by kernel_rfl
theorem msspec_l4Put : mFn Tryz.prog fid sspec_l4Put_t sspec_l4Put Tryz.f51 = true := by kernel_rfl
theorem msspec_l12Draw : mFn Tryz.prog fid sspec_l12Draw_t sspec_l12Draw Tryz.f48 = true := by kernel_rfl
theorem msspec_l1Int : mFn Tryz.prog fid sspec_l1Int_t sspec_l1Int Tryz.f98 = true := by kernel_rfl
theorem msspec_l17Tags : mFn Tryz.prog fid sspec_l17Tags_t sspec_l17Tags Tryz.f56 = true := by kernel_rfl
theorem msspec_l19Draw : mFn Tryz.prog fid sspec_l19Draw_t sspec_l19Draw Tryz.f130 = true := by kernel_rfl
theorem msspec_l19Path : mFn Tryz.prog fid sspec_l19Path_t sspec_l19Path Tryz.f97 = true := by kernel_rfl
theorem msspec_l31Draw : mFn Tryz.prog fid sspec_l31Draw_t sspec_l31Draw Tryz.f50 = true := by kernel_rfl
theorem msspec_l12Any : mFn Tryz.prog fid sspec_l12Any_t sspec_l12Any Tryz.f99 = true := by kernel_rfl
theorem msspec_l19Any : mFn Tryz.prog fid sspec_l19Any_t sspec_l19Any Tryz.f100 = true := by kernel_rfl
theorem msspec_l31Any : mFn Tryz.prog fid sspec_l31Any_t sspec_l31Any Tryz.f53 = true := by kernel_rfl
theorem msspec_l26Draw : mFn Tryz.prog fid sspec_l26Draw_t sspec_l26Draw Tryz.f54 = true := by kernel_rfl
theorem msspec_l26Any : mFn Tryz.prog fid sspec_l26Any_t sspec_l26Any Tryz.f55 = true := by kernel_rfl
theorem msspec_DrawNewWorld : mFn Tryz.prog fid sspec_DrawNewWorld_t sspec_DrawNewWorld Tryz.f15 = true := by kernel_rfl
theorem msimpl_copyPath : mFn Tryz.prog fid simpl_copyPath_t simpl_copyPath Tryz.f131 = true := by kernel_rfl
theorem msimpl_copyEndpoint : mFn Tryz.prog fid simpl_copyEndpoint_t simpl_copyEndpoint Tryz.f102 = true := by kernel_rfl
theorem msimpl_copyRollout : mFn Tryz.prog fid simpl_copyRollout_t simpl_copyRollout Tryz.f101 = true := by kernel_rfl
theorem msimpl_copyDialed : mFn Tryz.prog fid simpl_copyDialed_t simpl_copyDialed Tryz.f103 = true := by kernel_rfl
theorem msimpl_copyWorld : mFn Tryz.prog fid simpl_copyWorld_t simpl_copyWorld Tryz.f57 = true := by kernel_rfl
theorem msimpl_ListsOf : mFn Tryz.prog fid simpl_ListsOf_t simpl_ListsOf Tryz.f19 = true := by kernel_rfl
theorem msimpl_InRange : mFn Tryz.prog fid simpl_InRange_t simpl_InRange Tryz.f65 = true := by kernel_rfl
theorem msimpl_AreVersions : mFn Tryz.prog fid simpl_AreVersions_t simpl_AreVersions Tryz.f66 = true := by kernel_rfl
theorem msslices_Index___int_int_ : mFn Tryz.prog fid sslices_Index___int_int__t sslices_Index___int_int_ Tryz.f110 = true := by kernel_rfl
theorem msslices_Contains___int_int_ : mFn Tryz.prog fid sslices_Contains___int_int__t sslices_Contains___int_int_ Tryz.f64 = true := by kernel_rfl
theorem msimpl_CommonOf : mFn Tryz.prog fid simpl_CommonOf_t simpl_CommonOf Tryz.f112 = true := by kernel_rfl
theorem msimpl_BestCommon : mFn Tryz.prog fid simpl_BestCommon_t simpl_BestCommon Tryz.f69 = true := by kernel_rfl
theorem msimpl_AllReach_1 : mFn Tryz.prog fid simpl_AllReach_1_t simpl_AllReach_1 Tryz.f68 = true := by kernel_rfl
theorem msslices_IndexFunc_____int___int_ : mFn Tryz.prog fid sslices_IndexFunc_____int___int__t sslices_IndexFunc_____int___int_ Tryz.f111 = true := by kernel_rfl
theorem msslices_ContainsFunc_____int___int_ : mFn Tryz.prog fid sslices_ContainsFunc_____int___int__t sslices_ContainsFunc_____int___int_ Tryz.f67 = true := by kernel_rfl
theorem msimpl_AllReach : mFn Tryz.prog fid simpl_AllReach_t simpl_AllReach Tryz.f18 = true := by kernel_rfl
theorem msimpl_areNumbers_1 : mFn Tryz.prog fid simpl_areNumbers_1_t simpl_areNumbers_1 Tryz.f133 = true := by kernel_rfl
theorem msslices_IndexFunc___int_int_ : mFn Tryz.prog fid sslices_IndexFunc___int_int__t sslices_IndexFunc___int_int_ Tryz.f148 = true := by kernel_rfl
theorem msslices_ContainsFunc___int_int_ : mFn Tryz.prog fid sslices_ContainsFunc___int_int__t sslices_ContainsFunc___int_int_ Tryz.f132 = true := by kernel_rfl
theorem msimpl_areNumbers : mFn Tryz.prog fid simpl_areNumbers_t simpl_areNumbers Tryz.f104 = true := by kernel_rfl
theorem msimpl_areTags : mFn Tryz.prog fid simpl_areTags_t simpl_areTags Tryz.f58 = true := by kernel_rfl
theorem msimpl_IsValidKey : mFn Tryz.prog fid simpl_IsValidKey_t simpl_IsValidKey Tryz.f59 = true := by kernel_rfl
theorem msimpl_IsReserved : mFn Tryz.prog fid simpl_IsReserved_t simpl_IsReserved Tryz.f134 = true := by kernel_rfl
theorem msimpl_IsHardened : mFn Tryz.prog fid simpl_IsHardened_t simpl_IsHardened Tryz.f106 = true := by kernel_rfl
theorem msimpl_IsBox : mFn Tryz.prog fid simpl_IsBox_t simpl_IsBox Tryz.f109 = true := by kernel_rfl
theorem msimpl_IsEndpoint_1 : mFn Tryz.prog fid simpl_IsEndpoint_1_t simpl_IsEndpoint_1 Tryz.f108 = true := by kernel_rfl
theorem msslices_IndexFunc___impl_Box_impl_Box_ : mFn Tryz.prog fid sslices_IndexFunc___impl_Box_impl_Box__t sslices_IndexFunc___impl_Box_impl_Box_ Tryz.f135 = true := by kernel_rfl
theorem msslices_ContainsFunc___impl_Box_impl_Box_ : mFn Tryz.prog fid sslices_ContainsFunc___impl_Box_impl_Box__t sslices_ContainsFunc___impl_Box_impl_Box_ Tryz.f107 = true := by kernel_rfl
theorem msimpl_IsEndpoint : mFn Tryz.prog fid simpl_IsEndpoint_t simpl_IsEndpoint Tryz.f62 = true := by kernel_rfl
theorem msimpl_IsWorld_1 : mFn Tryz.prog fid simpl_IsWorld_1_t simpl_IsWorld_1 Tryz.f61 = true := by kernel_rfl
theorem msslices_IndexFunc___impl_Endpoint_impl_Endpoint_ : mFn Tryz.prog fid sslices_IndexFunc___impl_Endpoint_impl_Endpoint__t sslices_IndexFunc___impl_Endpoint_impl_Endpoint_ Tryz.f105 = true := by kernel_rfl
theorem msslices_ContainsFunc___impl_Endpoint_impl_Endpoint_ : mFn Tryz.prog fid sslices_ContainsFunc___impl_Endpoint_impl_Endpoint__t sslices_ContainsFunc___impl_Endpoint_impl_Endpoint_ Tryz.f60 = true := by kernel_rfl
theorem msimpl_IsRollout : mFn Tryz.prog fid simpl_IsRollout_t simpl_IsRollout Tryz.f63 = true := by kernel_rfl
theorem msimpl_IsWorld : mFn Tryz.prog fid simpl_IsWorld_t simpl_IsWorld Tryz.f17 = true := by kernel_rfl
theorem msimpl_NewWorld : mFn Tryz.prog fid simpl_NewWorld_t simpl_NewWorld Tryz.f16 = true := by kernel_rfl
theorem msspec_l32End : mFn Tryz.prog fid sspec_l32End_t sspec_l32End Tryz.f115 = true := by kernel_rfl
theorem msspec_l26Copy : mFn Tryz.prog fid sspec_l26Copy_t sspec_l26Copy Tryz.f116 = true := by kernel_rfl
theorem msspec_l32Dialed : mFn Tryz.prog fid sspec_l32Dialed_t sspec_l32Dialed Tryz.f117 = true := by kernel_rfl
theorem msspec_l32Copy : mFn Tryz.prog fid sspec_l32Copy_t sspec_l32Copy Tryz.f73 = true := by kernel_rfl
theorem msspec_l1In : mFn Tryz.prog fid sspec_l1In_t sspec_l1In Tryz.f85 = true := by kernel_rfl
theorem msspec_IsReserved : mFn Tryz.prog fid sspec_IsReserved_t sspec_IsReserved Tryz.f150 = true := by kernel_rfl
theorem msspec_l9Byte : mFn Tryz.prog fid sspec_l9Byte_t sspec_l9Byte Tryz.f167 = true := by kernel_rfl
theorem msspec_IsBox : mFn Tryz.prog fid sspec_IsBox_t sspec_IsBox Tryz.f151 = true := by kernel_rfl
theorem msspec_AreVersions : mFn Tryz.prog fid sspec_AreVersions_t sspec_AreVersions Tryz.f152 = true := by kernel_rfl
theorem msspec_IsEndpoint : mFn Tryz.prog fid sspec_IsEndpoint_t sspec_IsEndpoint Tryz.f137 = true := by kernel_rfl
theorem msspec_l32Tags : mFn Tryz.prog fid sspec_l32Tags_t sspec_l32Tags Tryz.f162 = true := by kernel_rfl
theorem msspec_IsValidKey : mFn Tryz.prog fid sspec_IsValidKey_t sspec_IsValidKey Tryz.f163 = true := by kernel_rfl
theorem msspec_IsRollout : mFn Tryz.prog fid sspec_IsRollout_t sspec_IsRollout Tryz.f164 = true := by kernel_rfl
theorem msspec_l9Has : mFn Tryz.prog fid sspec_l9Has_t sspec_l9Has Tryz.f158 = true := by kernel_rfl
theorem msspec_ListsOf : mFn Tryz.prog fid sspec_ListsOf_t sspec_ListsOf Tryz.f166 = true := by kernel_rfl
theorem msspec_CommonOf : mFn Tryz.prog fid sspec_CommonOf_t sspec_CommonOf Tryz.f157 = true := by kernel_rfl
theorem msspec_BestCommon : mFn Tryz.prog fid sspec_BestCommon_t sspec_BestCommon Tryz.f141 = true := by kernel_rfl
theorem msspec_AllReach : mFn Tryz.prog fid sspec_AllReach_t sspec_AllReach Tryz.f165 = true := by kernel_rfl
theorem msspec_IsWorld : mFn Tryz.prog fid sspec_IsWorld_t sspec_IsWorld Tryz.f149 = true := by kernel_rfl
theorem msspec_NewWorld : mFn Tryz.prog fid sspec_NewWorld_t sspec_NewWorld Tryz.f136 = true := by kernel_rfl
theorem msspec_l32World : mFn Tryz.prog fid sspec_l32World_t sspec_l32World Tryz.f113 = true := by kernel_rfl
theorem msspec_Mod : mFn Tryz.prog fid sspec_Mod_t sspec_Mod Tryz.f199 = true := by kernel_rfl
theorem msspec_Hash : mFn Tryz.prog fid sspec_Hash_t sspec_Hash Tryz.f200 = true := by kernel_rfl
theorem msspec_PickOf : mFn Tryz.prog fid sspec_PickOf_t sspec_PickOf Tryz.f183 = true := by kernel_rfl
theorem msspec_GreaseTag : mFn Tryz.prog fid sspec_GreaseTag_t sspec_GreaseTag Tryz.f180 = true := by kernel_rfl
theorem msspec_TagsOf : mFn Tryz.prog fid sspec_TagsOf_t sspec_TagsOf Tryz.f178 = true := by kernel_rfl
theorem msspec_KnownOf : mFn Tryz.prog fid sspec_KnownOf_t sspec_KnownOf Tryz.f193 = true := by kernel_rfl
theorem msspec_l11Copy : mFn Tryz.prog fid sspec_l11Copy_t sspec_l11Copy Tryz.f181 = true := by kernel_rfl
theorem msspec_ExtOf : mFn Tryz.prog fid sspec_ExtOf_t sspec_ExtOf Tryz.f179 = true := by kernel_rfl
theorem msspec_AreExts : mFn Tryz.prog fid sspec_AreExts_t sspec_AreExts Tryz.f182 = true := by kernel_rfl
theorem msspec_AddGrease : mFn Tryz.prog fid sspec_AddGrease_t sspec_AddGrease Tryz.f156 = true := by kernel_rfl
theorem msspec_HelloOf : mFn Tryz.prog fid sspec_HelloOf_t sspec_HelloOf Tryz.f139 = true := by kernel_rfl
theorem msspec_IsHello : mFn Tryz.prog fid sspec_IsHello_t sspec_IsHello Tryz.f168 = true := by kernel_rfl
theorem msspec_l18Hello : mFn Tryz.prog fid sspec_l18Hello_t sspec_l18Hello Tryz.f170 = true := by kernel_rfl
theorem msspec_PassBox : mFn Tryz.prog fid sspec_PassBox_t sspec_PassBox Tryz.f191 = true := by kernel_rfl
theorem msspec_PassPath : mFn Tryz.prog fid sspec_PassPath_t sspec_PassPath Tryz.f172 = true := by kernel_rfl
theorem msspec_EqualInts : mFn Tryz.prog fid sspec_EqualInts_t sspec_EqualInts Tryz.f207 = true := by kernel_rfl
theorem msspec_EqualExts : mFn Tryz.prog fid sspec_EqualExts_t sspec_EqualExts Tryz.f208 = true := by kernel_rfl
theorem msspec_EqualHellos : mFn Tryz.prog fid sspec_EqualHellos_t sspec_EqualHellos Tryz.f188 = true := by kernel_rfl
theorem msspec_PassesWhole : mFn Tryz.prog fid sspec_PassesWhole_t sspec_PassesWhole Tryz.f169 = true := by kernel_rfl
theorem msspec_PlainHello : mFn Tryz.prog fid sspec_PlainHello_t sspec_PlainHello Tryz.f184 = true := by kernel_rfl
theorem msspec_IsOpenPath : mFn Tryz.prog fid sspec_IsOpenPath_t sspec_IsOpenPath Tryz.f159 = true := by kernel_rfl
theorem msspec_LostVersions : mFn Tryz.prog fid sspec_LostVersions_t sspec_LostVersions Tryz.f143 = true := by kernel_rfl
theorem msspec_l21Left : mFn Tryz.prog fid sspec_l21Left_t sspec_l21Left Tryz.f142 = true := by kernel_rfl
theorem msspec_LostTags : mFn Tryz.prog fid sspec_LostTags_t sspec_LostTags Tryz.f190 = true := by kernel_rfl
theorem msspec_PartHello : mFn Tryz.prog fid sspec_PartHello_t sspec_PartHello Tryz.f189 = true := by kernel_rfl
theorem msspec_FallbackHello : mFn Tryz.prog fid sspec_FallbackHello_t sspec_FallbackHello Tryz.f171 = true := by kernel_rfl
theorem msspec_HelloFor : mFn Tryz.prog fid sspec_HelloFor_t sspec_HelloFor Tryz.f153 = true := by kernel_rfl
theorem msspec_StripGrease : mFn Tryz.prog fid sspec_StripGrease_t sspec_StripGrease Tryz.f192 = true := by kernel_rfl
theorem msspec_ChooseAnswer : mFn Tryz.prog fid sspec_ChooseAnswer_t sspec_ChooseAnswer Tryz.f173 = true := by kernel_rfl
theorem msspec_IsAnswer : mFn Tryz.prog fid sspec_IsAnswer_t sspec_IsAnswer Tryz.f194 = true := by kernel_rfl
theorem msspec_FitsHello : mFn Tryz.prog fid sspec_FitsHello_t sspec_FitsHello Tryz.f174 = true := by kernel_rfl
theorem msspec_EncodeExts : mFn Tryz.prog fid sspec_EncodeExts_t sspec_EncodeExts Tryz.f198 = true := by kernel_rfl
theorem msspec_HelloBytes : mFn Tryz.prog fid sspec_HelloBytes_t sspec_HelloBytes Tryz.f176 = true := by kernel_rfl
theorem msspec_AnswerBytes : mFn Tryz.prog fid sspec_AnswerBytes_t sspec_AnswerBytes Tryz.f177 = true := by kernel_rfl
theorem msspec_IsTranscript : mFn Tryz.prog fid sspec_IsTranscript_t sspec_IsTranscript Tryz.f195 = true := by kernel_rfl
theorem msspec_TranscriptHash : mFn Tryz.prog fid sspec_TranscriptHash_t sspec_TranscriptHash Tryz.f197 = true := by kernel_rfl
theorem msspec_KeyedHash : mFn Tryz.prog fid sspec_KeyedHash_t sspec_KeyedHash Tryz.f196 = true := by kernel_rfl
theorem msspec_FinishOf : mFn Tryz.prog fid sspec_FinishOf_t sspec_FinishOf Tryz.f175 = true := by kernel_rfl
theorem msspec_DialOnce : mFn Tryz.prog fid sspec_DialOnce_t sspec_DialOnce Tryz.f154 = true := by kernel_rfl
theorem msspec_GivenUp : mFn Tryz.prog fid sspec_GivenUp_t sspec_GivenUp Tryz.f155 = true := by kernel_rfl
theorem msspec_Dial : mFn Tryz.prog fid sspec_Dial_t sspec_Dial Tryz.f138 = true := by kernel_rfl
theorem msspec_EndDial : mFn Tryz.prog fid sspec_EndDial_t sspec_EndDial Tryz.f114 = true := by kernel_rfl
theorem msspec_l32Any : mFn Tryz.prog fid sspec_l32Any_t sspec_l32Any Tryz.f70 = true := by kernel_rfl
theorem msspec_DrawEndVersions : mFn Tryz.prog fid sspec_DrawEndVersions_t sspec_DrawEndVersions Tryz.f20 = true := by kernel_rfl
theorem msimpl_hasEnd : mFn Tryz.prog fid simpl_hasEnd_t simpl_hasEnd Tryz.f71 = true := by kernel_rfl
theorem msimpl_EndVersions : mFn Tryz.prog fid simpl_EndVersions_t simpl_EndVersions Tryz.f21 = true := by kernel_rfl
theorem msslices_Equal___int_int_ : mFn Tryz.prog fid sslices_Equal___int_int__t sslices_Equal___int_int_ Tryz.f72 = true := by kernel_rfl
theorem msimpl_EqualInts : mFn Tryz.prog fid simpl_EqualInts_t simpl_EqualInts Tryz.f22 = true := by kernel_rfl
theorem msspec_DrawEqualWorlds : mFn Tryz.prog fid sspec_DrawEqualWorlds_t sspec_DrawEqualWorlds Tryz.f23 = true := by kernel_rfl
theorem msimpl_EqualBoxes : mFn Tryz.prog fid simpl_EqualBoxes_t simpl_EqualBoxes Tryz.f119 = true := by kernel_rfl
theorem msslices_EqualFunc___impl_Box___impl_Box_impl_Box_impl_Box_ : mFn Tryz.prog fid sslices_EqualFunc___impl_Box___impl_Box_impl_Box_impl_Box__t sslices_EqualFunc___impl_Box___impl_Box_impl_Box_impl_Box_ Tryz.f118 = true := by kernel_rfl
theorem msimpl_EqualEndpoints : mFn Tryz.prog fid simpl_EqualEndpoints_t simpl_EqualEndpoints Tryz.f75 = true := by kernel_rfl
theorem msslices_EqualFunc___impl_Endpoint___impl_Endpoint_impl_Endpoint_impl_Endpoint_ : mFn Tryz.prog fid sslices_EqualFunc___impl_Endpoint___impl_Endpoint_impl_Endpoint_impl_Endpoint__t sslices_EqualFunc___impl_Endpoint___impl_Endpoint_impl_Endpoint_impl_Endpoint_ Tryz.f74 = true := by kernel_rfl
theorem msimpl_EqualRollouts : mFn Tryz.prog fid simpl_EqualRollouts_t simpl_EqualRollouts Tryz.f76 = true := by kernel_rfl
theorem msimpl_EqualDeals : mFn Tryz.prog fid simpl_EqualDeals_t simpl_EqualDeals Tryz.f120 = true := by kernel_rfl
theorem msimpl_EqualDialed : mFn Tryz.prog fid simpl_EqualDialed_t simpl_EqualDialed Tryz.f78 = true := by kernel_rfl
theorem msslices_EqualFunc___impl_Dialed___impl_Dialed_impl_Dialed_impl_Dialed_ : mFn Tryz.prog fid sslices_EqualFunc___impl_Dialed___impl_Dialed_impl_Dialed_impl_Dialed__t sslices_EqualFunc___impl_Dialed___impl_Dialed_impl_Dialed_impl_Dialed_ Tryz.f77 = true := by kernel_rfl
theorem msimpl_equalLogged : mFn Tryz.prog fid simpl_equalLogged_t simpl_equalLogged Tryz.f80 = true := by kernel_rfl
theorem msslices_EqualFunc___impl_Logged___impl_Logged_impl_Logged_impl_Logged_ : mFn Tryz.prog fid sslices_EqualFunc___impl_Logged___impl_Logged_impl_Logged_impl_Logged__t sslices_EqualFunc___impl_Logged___impl_Logged_impl_Logged_impl_Logged_ Tryz.f79 = true := by kernel_rfl
theorem msimplV_EqualWorlds : mFn Tryz.prog fid simplV_EqualWorlds_t simplV_EqualWorlds Tryz.f24 = true := by kernel_rfl
theorem mslaws_FnWorlds : mFn Tryz.prog fid slaws_FnWorlds_t slaws_FnWorlds Tryz.f4 = true := by kernel_rfl
theorem dbigS_460 : bigS (DE G0 460) := by unfold bigS; intros; refine lk (g := 460) rfl Tryz.func14 mslaws_big ?_; apply big_b (DE G0)  <;> assumption
theorem dl1NewS_473 : l1NewS (DE G0 473) := by unfold l1NewS; intros; refine new_lk (R := Body (DE G0) sspec_l1New) (R' := (DE G0) 473) (fun _ _ _ _ h => lk (g := 473) rfl Tryz.func47 msspec_l1New h)  ?_; apply l1New_b (DE G0)  <;> assumption
theorem dl1ByteS_486 : l1ByteS (DE G0 486) := by unfold l1ByteS; intros; refine draw_lk (R := Body (DE G0) sspec_l1Byte) (R' := (DE G0) 486) (fun _ _ _ _ h => lk (g := 486) rfl Tryz.func96 msspec_l1Byte h)  ?_; apply l1Byte_b (DE G0)  <;> assumption
theorem dl1BelowS_478 : l1BelowS (DE G0 478) := by unfold l1BelowS; intros; refine draw_lk (R := Body (DE G0) sspec_l1Below) (R' := (DE G0) 478) (fun _ _ _ _ h => lk (g := 478) rfl Tryz.func49 msspec_l1Below h)  ?_; apply l1Below_b (DE G0) dl1ByteS_486 <;> assumption
theorem dl1OnceS_474 : l1OnceS (DE G0 474) := by unfold l1OnceS; intros; refine draw_lk (R := Body (DE G0) sspec_l1Once) (R' := (DE G0) 474) (fun _ _ _ _ h => lk (g := 474) rfl Tryz.func52 msspec_l1Once h)  ?_; apply l1Once_b (DE G0) dl1BelowS_478 <;> assumption
theorem dl4PutS_159 : l4PutS (DE G0 159) := by unfold l4PutS; intros; refine lk (g := 159) rfl Tryz.func51 msspec_l4Put ?_; apply l4Put_b (DE G0)  <;> assumption
theorem dl12DrawS_490 : l12DrawS (DE G0 490) := by unfold l12DrawS; intros; refine draw_lk (R := Body (DE G0) sspec_l12Draw) (R' := (DE G0) 490) (fun _ _ _ _ h => lk (g := 490) rfl Tryz.func48 msspec_l12Draw h)  ?_; apply l12Draw_b (DE G0) dl1BelowS_478 dl4PutS_159 <;> assumption
theorem dl1IntS_481 : l1IntS (DE G0 481) := by unfold l1IntS; intros; refine draw_lk (R := Body (DE G0) sspec_l1Int) (R' := (DE G0) 481) (fun _ _ _ _ h => lk (g := 481) rfl Tryz.func98 msspec_l1Int h)  ?_; apply l1Int_b (DE G0) dl1BelowS_478 <;> assumption
theorem dl17TagsS_489 : l17TagsS (DE G0 489) := by unfold l17TagsS; intros; refine draw_lk (R := Body (DE G0) sspec_l17Tags) (R' := (DE G0) 489) (fun _ _ _ _ h => lk (g := 489) rfl Tryz.func56 msspec_l17Tags h)  ?_; apply l17Tags_b (DE G0) dl1BelowS_478 dl1IntS_481 dl4PutS_159 <;> assumption
theorem dl19DrawS_494 : l19DrawS (DE G0 494) := by unfold l19DrawS; intros; refine draw_lk (R := Body (DE G0) sspec_l19Draw) (R' := (DE G0) 494) (fun _ _ _ _ h => lk (g := 494) rfl Tryz.func130 msspec_l19Draw h)  ?_; apply l19Draw_b (DE G0) dl1BelowS_478 dl17TagsS_489 <;> assumption
theorem dl19PathS_493 : l19PathS (DE G0 493) := by unfold l19PathS; intros; refine draw_lk (R := Body (DE G0) sspec_l19Path) (R' := (DE G0) 493) (fun _ _ _ _ h => lk (g := 493) rfl Tryz.func97 msspec_l19Path h)  ?_; apply l19Path_b (DE G0) dl1BelowS_478 dl19DrawS_494 <;> assumption
theorem dl31DrawS_488 : l31DrawS (DE G0 488) := by unfold l31DrawS; intros; refine draw_lk (R := Body (DE G0) sspec_l31Draw) (R' := (DE G0) 488) (fun _ _ _ _ h => lk (g := 488) rfl Tryz.func50 msspec_l31Draw h)  ?_; apply l31Draw_b (DE G0) dl1BelowS_478 dl1IntS_481 dl12DrawS_490 dl19PathS_493 dl4PutS_159 <;> assumption
theorem dl12AnyS_480 : l12AnyS (DE G0 480) := by unfold l12AnyS; intros; refine draw_lk (R := Body (DE G0) sspec_l12Any) (R' := (DE G0) 480) (fun _ _ _ _ h => lk (g := 480) rfl Tryz.func99 msspec_l12Any h)  ?_; apply l12Any_b (DE G0) dl1BelowS_478 dl1IntS_481 dl12DrawS_490 <;> assumption
theorem dl19AnyS_491 : l19AnyS (DE G0 491) := by unfold l19AnyS; intros; refine draw_lk (R := Body (DE G0) sspec_l19Any) (R' := (DE G0) 491) (fun _ _ _ _ h => lk (g := 491) rfl Tryz.func100 msspec_l19Any h)  ?_; apply l19Any_b (DE G0) dl1BelowS_478 dl1IntS_481 dl19DrawS_494 <;> assumption
theorem dl31AnyS_482 : l31AnyS (DE G0 482) := by unfold l31AnyS; intros; refine draw_lk (R := Body (DE G0) sspec_l31Any) (R' := (DE G0) 482) (fun _ _ _ _ h => lk (g := 482) rfl Tryz.func53 msspec_l31Any h)  ?_; apply l31Any_b (DE G0) dl1BelowS_478 dl1IntS_481 dl31DrawS_488 dl12AnyS_480 dl19AnyS_491 <;> assumption
theorem dl26DrawS_487 : l26DrawS (DE G0 487) := by unfold l26DrawS; intros; refine draw_lk (R := Body (DE G0) sspec_l26Draw) (R' := (DE G0) 487) (fun _ _ _ _ h => lk (g := 487) rfl Tryz.func54 msspec_l26Draw h)  ?_; apply l26Draw_b (DE G0) dl1BelowS_478 dl4PutS_159 <;> assumption
theorem dl26AnyS_483 : l26AnyS (DE G0 483) := by unfold l26AnyS; intros; refine draw_lk (R := Body (DE G0) sspec_l26Any) (R' := (DE G0) 483) (fun _ _ _ _ h => lk (g := 483) rfl Tryz.func55 msspec_l26Any h)  ?_; apply l26Any_b (DE G0) dl1BelowS_478 dl1IntS_481 dl26DrawS_487 <;> assumption
theorem dDrawNewWorldS_496 : DrawNewWorldS (DE G0 496) := by unfold DrawNewWorldS; intros; refine drawB_lk (R := Body (DE G0) sspec_DrawNewWorld) (R' := (DE G0) 496) (fun _ _ _ _ h => lk (g := 496) rfl Tryz.func15 msspec_DrawNewWorld h)  ?_; apply DrawNewWorld_b (DE G0) dl1NewS_473 dl1BelowS_478 dl1OnceS_474 dl12DrawS_490 dl31DrawS_488 dl31AnyS_482 dl4PutS_159 dl26DrawS_487 dl26AnyS_483 dl17TagsS_489 <;> assumption
theorem dcpPathS_172 : cpPathS (DE G0 172) := by unfold cpPathS; intros; refine lk (g := 172) rfl Tryz.func131 msimpl_copyPath ?_; apply copyPath_b (DE G0)  <;> assumption
theorem dcpEndpointS_102 : cpEndpointS (DE G0 102) := by unfold cpEndpointS; intros; refine lk (g := 102) rfl Tryz.func102 msimpl_copyEndpoint ?_; apply copyEndpoint_b (DE G0) dcpPathS_172 <;> assumption
theorem dcpRolloutS_101 : cpRolloutS (DE G0 101) := by unfold cpRolloutS; intros; refine lk (g := 101) rfl Tryz.func101 msimpl_copyRollout ?_; apply copyRollout_b (DE G0)  <;> assumption
theorem dcpDialedS_103 : cpDialedS (DE G0 103) := by unfold cpDialedS; intros; refine lk (g := 103) rfl Tryz.func103 msimpl_copyDialed ?_; apply copyDialed_b (DE G0)  <;> assumption
theorem dcpWorldS_38 : cpWorldS (DE G0 38) := by unfold cpWorldS; intros; refine lk (g := 38) rfl Tryz.func57 msimpl_copyWorld ?_; apply copyWorld_b (DE G0) dcpEndpointS_102 dcpRolloutS_101 dcpDialedS_103 <;> assumption
theorem dListsOfS_123 : ListsOfS (DE G0 123) := by unfold ListsOfS; intros; refine lk (g := 123) rfl Tryz.func19 msimpl_ListsOf ?_; apply iListsOf_b (DE G0)  <;> assumption
theorem dInS_114 : InS (DE G0 114) := by unfold InS; intros; refine lk (g := 114) rfl Tryz.func65 msimpl_InRange ?_; apply InRange_b (DE G0)  <;> assumption
theorem dAreVersionsS_232 : AreVersionsS (DE G0 232) := by unfold AreVersionsS; intros; refine lk (g := 232) rfl Tryz.func66 msimpl_AreVersions ?_; apply iAreVersions_b (DE G0) dInS_114 <;> assumption
theorem dIndexS_389 : IndexS (DE G0 389) := by unfold IndexS; intros; refine lk (g := 389) rfl Tryz.func110 msslices_Index___int_int_ ?_; apply Index_b (DE G0)  <;> assumption
theorem dHasS_188 : HasS (DE G0 188) := by unfold HasS; intros; refine lk (g := 188) rfl Tryz.func64 msslices_Contains___int_int_ ?_; apply Contains_b (DE G0) dIndexS_389 <;> assumption
theorem dCommonOfS_242 : CommonOfS (DE G0 242) := by unfold CommonOfS; intros; refine lk (g := 242) rfl Tryz.func112 msimpl_CommonOf ?_; apply iCommonOf_b (DE G0) dHasS_188 <;> assumption
theorem dBestCommonS_190 : BestCommonS (DE G0 190) := by unfold BestCommonS; intros; refine lk (g := 190) rfl Tryz.func69 msimpl_BestCommon ?_; apply iBestCommon_b (DE G0) dCommonOfS_242 dAreVersionsS_232 <;> assumption
theorem dAllReach1S_268 : AllReach1S (DE G0 268) := by unfold AllReach1S; intros; refine lk (g := 268) rfl Tryz.func68 msimpl_AllReach_1 ?_; apply AllReach1_b (DE G0) dBestCommonS_190 <;> assumption
theorem dIndexFuncRowsS_405 : IndexFuncRowsS (DE G0) (DE G0 405) := by unfold IndexFuncRowsS; intros; refine lk (g := 405) rfl Tryz.func111 msslices_IndexFunc_____int___int_ ?_; apply IndexFuncRows_b (DE G0)  <;> assumption
theorem dContainsFuncRowsS_269 : ContainsFuncRowsS (DE G0) (DE G0 269) := by unfold ContainsFuncRowsS; intros; refine lk (g := 269) rfl Tryz.func67 msslices_ContainsFunc_____int___int_ ?_; apply ContainsFuncRows_b (DE G0) dIndexFuncRowsS_405 <;> assumption
theorem dAllReachS_234 : AllReachS (DE G0 234) := by unfold AllReachS; intros; refine lk (g := 234) rfl Tryz.func18 msimpl_AllReach ?_; apply iAllReach_b (DE G0) dAreVersionsS_232 dAllReach1S_268 dContainsFuncRowsS_269 <;> assumption
theorem dareNumbers1S_266 : areNumbers1S (DE G0 266) := by unfold areNumbers1S; intros; refine lk (g := 266) rfl Tryz.func133 msimpl_areNumbers_1 ?_; apply areNumbers1_b (DE G0) dInS_114 <;> assumption
theorem dIndexFuncS_404 : IndexFuncS (DE G0) (DE G0 404) := by unfold IndexFuncS; intros; refine lk (g := 404) rfl Tryz.func148 msslices_IndexFunc___int_int_ ?_; apply IndexFunc_b (DE G0)  <;> assumption
theorem dContainsFuncS_267 : ContainsFuncS (DE G0) (DE G0 267) := by unfold ContainsFuncS; intros; refine lk (g := 267) rfl Tryz.func132 msslices_ContainsFunc___int_int_ ?_; apply ContainsFunc_b (DE G0) dIndexFuncS_404 <;> assumption
theorem dareNumbersS_233 : areNumbersS (DE G0 233) := by unfold areNumbersS; intros; refine lk (g := 233) rfl Tryz.func104 msimpl_areNumbers ?_; apply areNumbers_b (DE G0) dareNumbers1S_266 dContainsFuncS_267 <;> assumption
theorem dAreTagsS_235 : AreTagsS (DE G0 235) := by unfold AreTagsS; intros; refine lk (g := 235) rfl Tryz.func58 msimpl_areTags ?_; apply iareTags_b (DE G0) dareNumbersS_233 <;> assumption
theorem dValidKeyS_236 : ValidKeyS (DE G0 236) := by unfold ValidKeyS; intros; refine lk (g := 236) rfl Tryz.func59 msimpl_IsValidKey ?_; apply iValidKey_b (DE G0) dInS_114 <;> assumption
theorem dIsReservedS_279 : IsReservedS (DE G0 279) := by unfold IsReservedS; intros; refine lk (g := 279) rfl Tryz.func134 msimpl_IsReserved ?_; apply iIsReserved_b (DE G0) dInS_114 <;> assumption
theorem dIsHardenedS_270 : IsHardenedS (DE G0 270) := by unfold IsHardenedS; intros; refine lk (g := 270) rfl Tryz.func106 msimpl_IsHardened ?_; apply iIsHardened_b (DE G0) dIsReservedS_279 dContainsFuncS_267 <;> assumption
theorem dIsBoxS_183 : IsBoxS (DE G0 183) := by unfold IsBoxS; intros; refine lk (g := 183) rfl Tryz.func109 msimpl_IsBox ?_; apply iIsBox_b (DE G0) dInS_114 dareNumbersS_233 <;> assumption
theorem dIsEndpoint1S_271 : IsEndpoint1S (DE G0 271) := by unfold IsEndpoint1S; intros; refine lk (g := 271) rfl Tryz.func108 msimpl_IsEndpoint_1 ?_; apply IsEndpoint1_b (DE G0) dIsBoxS_183 <;> assumption
theorem dIndexFuncBoxS_406 : IndexFuncBoxS (DE G0) (DE G0 406) := by unfold IndexFuncBoxS; intros; refine lk (g := 406) rfl Tryz.func135 msslices_IndexFunc___impl_Box_impl_Box_ ?_; apply IndexFuncBox_b (DE G0)  <;> assumption
theorem dContainsFuncBoxS_272 : ContainsFuncBoxS (DE G0) (DE G0 272) := by unfold ContainsFuncBoxS; intros; refine lk (g := 272) rfl Tryz.func107 msslices_ContainsFunc___impl_Box_impl_Box_ ?_; apply ContainsFuncBox_b (DE G0) dIndexFuncBoxS_406 <;> assumption
theorem dIsEndpointS_239 : IsEndpointS (DE G0 239) := by unfold IsEndpointS; intros; refine lk (g := 239) rfl Tryz.func62 msimpl_IsEndpoint ?_; apply iIsEndpoint_b (DE G0) dAreVersionsS_232 dAreTagsS_235 dIsHardenedS_270 dIsEndpoint1S_271 dContainsFuncBoxS_272 dInS_114 <;> assumption
theorem dIsWorld1S_237 : IsWorld1S (DE G0 237) := by unfold IsWorld1S; intros; refine lk (g := 237) rfl Tryz.func61 msimpl_IsWorld_1 ?_; apply IsWorld1_b (DE G0) dIsEndpointS_239 <;> assumption
theorem dIndexFuncEndpointS_393 : IndexFuncEndpointS (DE G0) (DE G0 393) := by unfold IndexFuncEndpointS; intros; refine lk (g := 393) rfl Tryz.func105 msslices_IndexFunc___impl_Endpoint_impl_Endpoint_ ?_; apply IndexFuncEndpoint_b (DE G0)  <;> assumption
theorem dContainsFuncEndpointS_238 : ContainsFuncEndpointS (DE G0) (DE G0 238) := by unfold ContainsFuncEndpointS; intros; refine lk (g := 238) rfl Tryz.func60 msslices_ContainsFunc___impl_Endpoint_impl_Endpoint_ ?_; apply ContainsFuncEndpoint_b (DE G0) dIndexFuncEndpointS_393 <;> assumption
theorem dIsRolloutS_176 : IsRolloutS (DE G0 176) := by unfold IsRolloutS; intros; refine lk (g := 176) rfl Tryz.func63 msimpl_IsRollout ?_; apply iIsRollout_b (DE G0) dInS_114 <;> assumption
theorem dIsWorldS_184 : IsWorldS (DE G0 184) := by unfold IsWorldS; intros; refine lk (g := 184) rfl Tryz.func17 msimpl_IsWorld ?_; apply iIsWorld_b (DE G0) dListsOfS_123 dAllReachS_234 dAreTagsS_235 dValidKeyS_236 dIsWorld1S_237 dContainsFuncEndpointS_238 dIsRolloutS_176 dHasS_188 dInS_114 <;> assumption
theorem dNewWorldS_116 : NewWorldS (DE G0 116) := by unfold NewWorldS; intros; refine lk (g := 116) rfl Tryz.func16 msimpl_NewWorld ?_; apply iNewWorld_b (DE G0) dcpWorldS_38 dIsWorldS_184 <;> assumption
theorem dcpEndpointS_65 : cpEndpointS (DE G0 65) := by unfold cpEndpointS; intros; refine lk (g := 65) rfl Tryz.func115 msspec_l32End ?_; apply l32End_b (DE G0)  <;> assumption
theorem dcpRolloutS_66 : cpRolloutS (DE G0 66) := by unfold cpRolloutS; intros; refine lk (g := 66) rfl Tryz.func116 msspec_l26Copy ?_; apply l26Copy_b (DE G0)  <;> assumption
theorem dcpDialedS_67 : cpDialedS (DE G0 67) := by unfold cpDialedS; intros; refine lk (g := 67) rfl Tryz.func117 msspec_l32Dialed ?_; apply l32Dialed_b (DE G0)  <;> assumption
theorem dcpWorldS_22 : cpWorldS (DE G0 22) := by unfold cpWorldS; intros; refine lk (g := 22) rfl Tryz.func73 msspec_l32Copy ?_; apply l32Copy_b (DE G0) dcpEndpointS_65 dcpRolloutS_66 dcpDialedS_67 <;> assumption
theorem dInS_71 : InS (DE G0 71) := by unfold InS; intros; refine lk (g := 71) rfl Tryz.func85 msspec_l1In ?_; apply l1In_b (DE G0)  <;> assumption
theorem dIsReservedS_250 : IsReservedS (DE G0 250) := by unfold IsReservedS; intros; refine lk (g := 250) rfl Tryz.func150 msspec_IsReserved ?_; apply sIsReserved_b (DE G0) dInS_71 <;> assumption
theorem dl9ByteS_217 : l9ByteS (DE G0 217) := by unfold l9ByteS; intros; refine lk (g := 217) rfl Tryz.func167 msspec_l9Byte ?_; apply l9Byte_b (DE G0) dInS_71 <;> assumption
theorem dIsBoxS_152 : IsBoxS (DE G0 152) := by unfold IsBoxS; intros; refine lk (g := 152) rfl Tryz.func151 msspec_IsBox ?_; apply sIsBox_b (DE G0) dInS_71 dl9ByteS_217 <;> assumption
theorem dAreVersionsS_208 : AreVersionsS (DE G0 208) := by unfold AreVersionsS; intros; refine lk (g := 208) rfl Tryz.func152 msspec_AreVersions ?_; apply sAreVersions_b (DE G0) dInS_71 <;> assumption
theorem dIsEndpointS_207 : IsEndpointS (DE G0 207) := by unfold IsEndpointS; intros; refine lk (g := 207) rfl Tryz.func137 msspec_IsEndpoint ?_; apply sIsEndpoint_b (DE G0) dInS_71 dIsReservedS_250 dIsBoxS_152 dAreVersionsS_208 <;> assumption
theorem dAreTagsS_209 : AreTagsS (DE G0 209) := by unfold AreTagsS; intros; refine lk (g := 209) rfl Tryz.func162 msspec_l32Tags ?_; apply sl32Tags_b (DE G0) dInS_71 <;> assumption
theorem dValidKeyS_210 : ValidKeyS (DE G0 210) := by unfold ValidKeyS; intros; refine lk (g := 210) rfl Tryz.func163 msspec_IsValidKey ?_; apply sValidKey_b (DE G0) dInS_71 <;> assumption
theorem dIsRolloutS_145 : IsRolloutS (DE G0 145) := by unfold IsRolloutS; intros; refine lk (g := 145) rfl Tryz.func164 msspec_IsRollout ?_; apply sIsRollout_b (DE G0) dInS_71 <;> assumption
theorem dHasS_166 : HasS (DE G0 166) := by unfold HasS; intros; refine lk (g := 166) rfl Tryz.func158 msspec_l9Has ?_; apply l9Has_b (DE G0)  <;> assumption
theorem dListsOfS_95 : ListsOfS (DE G0 95) := by unfold ListsOfS; intros; refine lk (g := 95) rfl Tryz.func166 msspec_ListsOf ?_; apply sListsOf_b (DE G0)  <;> assumption
theorem dCommonOfS_224 : CommonOfS (DE G0 224) := by unfold CommonOfS; intros; refine lk (g := 224) rfl Tryz.func157 msspec_CommonOf ?_; apply sCommonOf_b (DE G0) dHasS_166 <;> assumption
theorem dBestCommonS_168 : BestCommonS (DE G0 168) := by unfold BestCommonS; intros; refine lk (g := 168) rfl Tryz.func141 msspec_BestCommon ?_; apply sBestCommon_b (DE G0) dCommonOfS_224 dAreVersionsS_208 <;> assumption
theorem dAllReachS_211 : AllReachS (DE G0 211) := by unfold AllReachS; intros; refine lk (g := 211) rfl Tryz.func165 msspec_AllReach ?_; apply sAllReach_b (DE G0) dBestCommonS_168 dAreVersionsS_208 <;> assumption
theorem dIsWorldS_141 : IsWorldS (DE G0 141) := by unfold IsWorldS; intros; refine lk (g := 141) rfl Tryz.func149 msspec_IsWorld ?_; apply sIsWorld_b (DE G0) dIsEndpointS_207 dAreVersionsS_208 dAreTagsS_209 dValidKeyS_210 dIsRolloutS_145 dHasS_166 dListsOfS_95 dAllReachS_211 dInS_71 <;> assumption
theorem dNewWorldS_70 : NewWorldS (DE G0 70) := by unfold NewWorldS; intros; refine lk (g := 70) rfl Tryz.func136 msspec_NewWorld ?_; apply sNewWorld_b (DE G0) dcpWorldS_22 dIsWorldS_141 <;> assumption
theorem dl32WorldS_479 : l32WorldS (DE G0 479) := by unfold l32WorldS; intros; refine draw_lk (R := Body (DE G0) sspec_l32World) (R' := (DE G0) 479) (fun _ _ _ _ h => lk (g := 479) rfl Tryz.func113 msspec_l32World h)  ?_; apply l32World_b (DE G0) dl1BelowS_478 dl4PutS_159 dl26DrawS_487 dl31DrawS_488 dl17TagsS_489 dNewWorldS_70 <;> assumption
theorem dModS_339 : ModS (DE G0 339) := by unfold ModS; intros; refine lk (g := 339) rfl Tryz.func199 msspec_Mod ?_; apply sMod_b (DE G0) dInS_71 <;> assumption
theorem dHashS_338 : HashS (DE G0 338) := by unfold HashS; intros; refine lk (g := 338) rfl Tryz.func200 msspec_Hash ?_; apply sHash_b (DE G0) dModS_339 <;> assumption
theorem dPickS_313 : PickS (DE G0 313) := by unfold PickS; intros; refine lk (g := 313) rfl Tryz.func183 msspec_PickOf ?_; apply sPick_b (DE G0) dHashS_338 dModS_339 <;> assumption
theorem dGreaseTagS_310 : GreaseTagS (DE G0 310) := by unfold GreaseTagS; intros; refine lk (g := 310) rfl Tryz.func180 msspec_GreaseTag ?_; apply sGreaseTag_b (DE G0) dPickS_313 <;> assumption
theorem dTagsOfS_308 : TagsOfS (DE G0 308) := by unfold TagsOfS; intros; refine lk (g := 308) rfl Tryz.func178 msspec_TagsOf ?_; apply sTagsOf_b (DE G0)  <;> assumption
theorem dKnownOfS_331 : KnownOfS (DE G0 331) := by unfold KnownOfS; intros; refine lk (g := 331) rfl Tryz.func193 msspec_KnownOf ?_; apply sKnownOf_b (DE G0) dHasS_166 <;> assumption
theorem dcpExtsS_311 : cpExtsS (DE G0 311) := by unfold cpExtsS; intros; refine lk (g := 311) rfl Tryz.func181 msspec_l11Copy ?_; apply l11Copy_b (DE G0) dTagsOfS_308 dKnownOfS_331 <;> assumption
theorem dExtOfS_309 : ExtOfS (DE G0 309) := by unfold ExtOfS; intros; refine lk (g := 309) rfl Tryz.func179 msspec_ExtOf ?_; apply sExtOf_b (DE G0)  <;> assumption
theorem dAreExtsS_312 : AreExtsS (DE G0 312) := by unfold AreExtsS; intros; refine lk (g := 312) rfl Tryz.func182 msspec_AreExts ?_; apply sAreExts_b (DE G0) dInS_71 dl9ByteS_217 dExtOfS_309 <;> assumption
theorem dAddGreaseS_283 : AddGreaseS (DE G0 283) := by unfold AddGreaseS; intros; refine lk (g := 283) rfl Tryz.func156 msspec_AddGrease ?_; apply sAddGrease_b (DE G0) dGreaseTagS_310 dcpExtsS_311 dAreExtsS_312 dExtOfS_309 dPickS_313 <;> assumption
theorem dHelloOfS_251 : HelloOfS (DE G0 251) := by unfold HelloOfS; intros; refine lk (g := 251) rfl Tryz.func139 msspec_HelloOf ?_; apply sHelloOf_b (DE G0) dIsEndpointS_207 dAddGreaseS_283 <;> assumption
theorem dIsHelloS_285 : IsHelloS (DE G0 285) := by unfold IsHelloS; intros; refine lk (g := 285) rfl Tryz.func168 msspec_IsHello ?_; apply sIsHello_b (DE G0) dAreVersionsS_208 dAreExtsS_312 <;> assumption
theorem dcpHelloS_301 : cpHelloS (DE G0 301) := by unfold cpHelloS; intros; refine lk (g := 301) rfl Tryz.func170 msspec_l18Hello ?_; apply l18Hello_b (DE G0) dcpExtsS_311 <;> assumption
theorem dPassBoxS_258 : PassBoxS (DE G0 258) := by unfold PassBoxS; intros; refine lk (g := 258) rfl Tryz.func191 msspec_PassBox ?_; apply sPassBox_b (DE G0) dIsBoxS_152 dIsHelloS_285 dHasS_166 dInS_71 <;> assumption
theorem dPassPathS_286 : PassPathS (DE G0 286) := by unfold PassPathS; intros; refine lk (g := 286) rfl Tryz.func172 msspec_PassPath ?_; apply sPassPath_b (DE G0) dIsHelloS_285 dcpHelloS_301 dPassBoxS_258 <;> assumption
theorem deqIntSS_355 : eqIntSS (DE G0 355) := by unfold eqIntSS; intros; refine lk (g := 355) rfl Tryz.func207 msspec_EqualInts ?_; apply sEqualInts_b (DE G0)  <;> assumption
theorem dEqExtsS_356 : EqExtsS (DE G0 356) := by unfold EqExtsS; intros; refine lk (g := 356) rfl Tryz.func208 msspec_EqualExts ?_; apply sEqualExts_b (DE G0) deqIntSS_355 <;> assumption
theorem dEqHellosS_328 : EqHellosS (DE G0 328) := by unfold EqHellosS; intros; refine lk (g := 328) rfl Tryz.func188 msspec_EqualHellos ?_; apply sEqualHellos_b (DE G0) deqIntSS_355 dEqExtsS_356 <;> assumption
theorem dPassesWholeS_300 : PassesWholeS (DE G0 300) := by unfold PassesWholeS; intros; refine lk (g := 300) rfl Tryz.func169 msspec_PassesWhole ?_; apply sPassesWhole_b (DE G0) dPassPathS_286 dEqHellosS_328 <;> assumption
theorem dPlainHelloS_256 : PlainHelloS (DE G0 256) := by unfold PlainHelloS; intros; refine lk (g := 256) rfl Tryz.func184 msspec_PlainHello ?_; apply sPlainHello_b (DE G0)  <;> assumption
theorem dIsOpenPathS_260 : IsOpenPathS (DE G0 260) := by unfold IsOpenPathS; intros; refine lk (g := 260) rfl Tryz.func159 msspec_IsOpenPath ?_; apply sIsOpenPath_b (DE G0) dAreVersionsS_208 dPlainHelloS_256 dPassPathS_286 <;> assumption
theorem dLostVersionsS_222 : LostVersionsS (DE G0 222) := by unfold LostVersionsS; intros; refine lk (g := 222) rfl Tryz.func143 msspec_LostVersions ?_; apply sLostVersions_b (DE G0) dAreVersionsS_208 dIsOpenPathS_260 <;> assumption
theorem dLeftS_223 : LeftS (DE G0 223) := by unfold LeftS; intros; refine lk (g := 223) rfl Tryz.func142 msspec_l21Left ?_; apply l21Left_b (DE G0) dHasS_166 <;> assumption
theorem dLostTagsS_329 : LostTagsS (DE G0 329) := by unfold LostTagsS; intros; refine lk (g := 329) rfl Tryz.func190 msspec_LostTags ?_; apply sLostTags_b (DE G0) dAreExtsS_312 dIsOpenPathS_260 dPlainHelloS_256 dPassPathS_286 dEqExtsS_356 <;> assumption
theorem dPartHelloS_330 : PartHelloS (DE G0 330) := by unfold PartHelloS; intros; refine lk (g := 330) rfl Tryz.func189 msspec_PartHello ?_; apply sPartHello_b (DE G0) dIsHelloS_285 dHasS_166 <;> assumption
theorem dFallbackS_302 : FallbackS (DE G0 302) := by unfold FallbackS; intros; refine lk (g := 302) rfl Tryz.func171 msspec_FallbackHello ?_; apply sFallback_b (DE G0) dIsHelloS_285 dLostVersionsS_222 dLeftS_223 dLostTagsS_329 dPartHelloS_330 <;> assumption
theorem dHelloForS_280 : HelloForS (DE G0 280) := by unfold HelloForS; intros; refine lk (g := 280) rfl Tryz.func153 msspec_HelloFor ?_; apply sHelloFor_b (DE G0) dIsHelloS_285 dPassesWholeS_300 dcpHelloS_301 dFallbackS_302 <;> assumption
theorem dStripGreaseS_332 : StripGreaseS (DE G0 332) := by unfold StripGreaseS; intros; refine lk (g := 332) rfl Tryz.func192 msspec_StripGrease ?_; apply sStripGrease_b (DE G0) dIsReservedS_250 <;> assumption
theorem dChooseS_303 : ChooseS (DE G0 303) := by unfold ChooseS; intros; refine lk (g := 303) rfl Tryz.func173 msspec_ChooseAnswer ?_; apply sChoose_b (DE G0) dBestCommonS_168 dIsHelloS_285 dKnownOfS_331 dStripGreaseS_332 <;> assumption
theorem dIsAnswerS_333 : IsAnswerS (DE G0 333) := by unfold IsAnswerS; intros; refine lk (g := 333) rfl Tryz.func194 msspec_IsAnswer ?_; apply sIsAnswer_b (DE G0) dInS_71 dAreExtsS_312 <;> assumption
theorem dFitsHelloS_304 : FitsHelloS (DE G0 304) := by unfold FitsHelloS; intros; refine lk (g := 304) rfl Tryz.func174 msspec_FitsHello ?_; apply sFitsHello_b (DE G0) dExtOfS_309 dIsReservedS_250 dIsHelloS_285 dIsAnswerS_333 dHasS_166 <;> assumption
theorem dEncodeExtsS_337 : EncodeExtsS (DE G0 337) := by unfold EncodeExtsS; intros; refine lk (g := 337) rfl Tryz.func198 msspec_EncodeExts ?_; apply sEncodeExts_b (DE G0) dAreExtsS_312 <;> assumption
theorem dHelloBytesS_305 : HelloBytesS (DE G0 305) := by unfold HelloBytesS; intros; refine lk (g := 305) rfl Tryz.func176 msspec_HelloBytes ?_; apply sHelloBytes_b (DE G0) dIsHelloS_285 dEncodeExtsS_337 <;> assumption
theorem dAnswerBytesS_306 : AnswerBytesS (DE G0 306) := by unfold AnswerBytesS; intros; refine lk (g := 306) rfl Tryz.func177 msspec_AnswerBytes ?_; apply sAnswerBytes_b (DE G0) dIsAnswerS_333 dEncodeExtsS_337 <;> assumption
theorem dIsTransS_334 : IsTransS (DE G0 334) := by unfold IsTransS; intros; refine lk (g := 334) rfl Tryz.func195 msspec_IsTranscript ?_; apply sIsTrans_b (DE G0) dl9ByteS_217 <;> assumption
theorem dTransHashS_335 : TransHashS (DE G0 335) := by unfold TransHashS; intros; refine lk (g := 335) rfl Tryz.func197 msspec_TranscriptHash ?_; apply sTransHash_b (DE G0) dIsTransS_334 dHashS_338 <;> assumption
theorem dKeyedS_336 : KeyedS (DE G0 336) := by unfold KeyedS; intros; refine lk (g := 336) rfl Tryz.func196 msspec_KeyedHash ?_; apply sKeyed_b (DE G0) dHashS_338 <;> assumption
theorem dFinishS_307 : FinishS (DE G0 307) := by unfold FinishS; intros; refine lk (g := 307) rfl Tryz.func175 msspec_FinishOf ?_; apply sFinish_b (DE G0) dValidKeyS_210 dIsTransS_334 dInS_71 dTransHashS_335 dKeyedS_336 <;> assumption
theorem dDialOnceS_281 : DialOnceS (DE G0 281) := by unfold DialOnceS; intros; refine lk (g := 281) rfl Tryz.func154 msspec_DialOnce ?_; apply sDialOnce_b (DE G0) dPassPathS_286 dChooseS_303 dFitsHelloS_304 dHelloBytesS_305 dAnswerBytesS_306 dFinishS_307 dTagsOfS_308 <;> assumption
theorem dGivenUpS_282 : GivenUpS (DE G0 282) := by unfold GivenUpS; intros; refine lk (g := 282) rfl Tryz.func155 msspec_GivenUp ?_; apply sGivenUp_b (DE G0) dLeftS_223 dExtOfS_309 dInS_71 <;> assumption
theorem dDialS_252 : DialS (DE G0 252) := by unfold DialS; intros; refine lk (g := 252) rfl Tryz.func138 msspec_Dial ?_; apply sDial_b (DE G0) dHelloForS_280 dDialOnceS_281 dGivenUpS_282 <;> assumption
theorem dEndDialS_213 : EndDialS (DE G0 213) := by unfold EndDialS; intros; refine lk (g := 213) rfl Tryz.func114 msspec_EndDial ?_; apply sEndDial_b (DE G0) dIsEndpointS_207 dHelloOfS_251 dDialS_252 <;> assumption
theorem dl32AnyS_475 : l32AnyS (DE G0 475) := by unfold l32AnyS; intros; refine draw_lk (R := Body (DE G0) sspec_l32Any) (R' := (DE G0) 475) (fun _ _ _ _ h => lk (g := 475) rfl Tryz.func70 msspec_l32Any h)  ?_; apply l32Any_b (DE G0) dl1BelowS_478 dl1IntS_481 dl32WorldS_479 dl12AnyS_480 dl31AnyS_482 dl26AnyS_483 dEndDialS_213 <;> assumption
theorem dDrawEndVersionsS_497 : DrawEndVersionsS (DE G0 497) := by unfold DrawEndVersionsS; intros; refine drawB_lk (R := Body (DE G0) sspec_DrawEndVersions) (R' := (DE G0) 497) (fun _ _ _ _ h => lk (g := 497) rfl Tryz.func20 msspec_DrawEndVersions h)  ?_; apply DrawEndVersions_b (DE G0) dl1NewS_473 dl1BelowS_478 dl32AnyS_475 <;> assumption
theorem dhasEndS_117 : hasEndS (DE G0 117) := by unfold hasEndS; intros; refine lk (g := 117) rfl Tryz.func71 msimpl_hasEnd ?_; apply hasEnd_b (DE G0) dInS_114 <;> assumption
theorem dEndVersionsS_470 : EndVersionsS (DE G0 470) := by unfold EndVersionsS; intros; refine lk (g := 470) rfl Tryz.func21 msimpl_EndVersions ?_; apply iEndVersions_b (DE G0) dhasEndS_117 <;> assumption
theorem deqIntSS_357 : eqIntSS (DE G0 357) := by unfold eqIntSS; intros; refine lk (g := 357) rfl Tryz.func72 msslices_Equal___int_int_ ?_; apply iEqual_b (DE G0)  <;> assumption
theorem deqIntSS_498 : eqIntSS (DE G0 498) := by unfold eqIntSS; intros; refine lk (g := 498) rfl Tryz.func22 msimpl_EqualInts ?_; apply iEqualInts_b (DE G0) deqIntSS_357 <;> assumption
theorem dDrawEqualWorldsS_499 : DrawEqualWorldsS (DE G0 499) := by unfold DrawEqualWorldsS; intros; refine drawB_lk (R := Body (DE G0) sspec_DrawEqualWorlds) (R' := (DE G0) 499) (fun _ _ _ _ h => lk (g := 499) rfl Tryz.func23 msspec_DrawEqualWorlds h)  ?_; apply DrawEqualWorlds_b (DE G0) dl1NewS_473 dl1BelowS_478 dl32AnyS_475 dcpWorldS_22 <;> assumption
theorem dEqualBoxesS_503 : EqualBoxesS (DE G0 503) := by unfold EqualBoxesS; intros; refine lk (g := 503) rfl Tryz.func119 msimpl_EqualBoxes ?_; apply EqualBoxes_b (DE G0) deqIntSS_357 <;> assumption
theorem dEqFuncBoxS_504 : EqFuncBoxS (DE G0) (DE G0 504) := by unfold EqFuncBoxS; intros; refine lk (g := 504) rfl Tryz.func118 msslices_EqualFunc___impl_Box___impl_Box_impl_Box_impl_Box_ ?_; apply EqFuncBox_b (DE G0)  <;> assumption
theorem dEqualEndpointsS_502 : EqualEndpointsS (DE G0 502) := by unfold EqualEndpointsS; intros; refine lk (g := 502) rfl Tryz.func75 msimpl_EqualEndpoints ?_; apply EqualEndpoints_b (DE G0) deqIntSS_357 dEqualBoxesS_503 dEqFuncBoxS_504 <;> assumption
theorem dEqFuncEndS_501 : EqFuncEndS (DE G0) (DE G0 501) := by unfold EqFuncEndS; intros; refine lk (g := 501) rfl Tryz.func74 msslices_EqualFunc___impl_Endpoint___impl_Endpoint_impl_Endpoint_impl_Endpoint_ ?_; apply EqFuncEnd_b (DE G0)  <;> assumption
theorem dEqualRolloutsS_505 : EqualRolloutsS (DE G0 505) := by unfold EqualRolloutsS; intros; refine lk (g := 505) rfl Tryz.func76 msimpl_EqualRollouts ?_; apply EqualRollouts_b (DE G0) deqIntSS_357 <;> assumption
theorem dEqualDealsS_508 : EqualDealsS (DE G0 508) := by unfold EqualDealsS; intros; refine lk (g := 508) rfl Tryz.func120 msimpl_EqualDeals ?_; apply EqualDeals_b (DE G0) deqIntSS_357 <;> assumption
theorem dEqualDialedS_507 : EqualDialedS (DE G0 507) := by unfold EqualDialedS; intros; refine lk (g := 507) rfl Tryz.func78 msimpl_EqualDialed ?_; apply EqualDialed_b (DE G0) dEqualDealsS_508 deqIntSS_357 <;> assumption
theorem dEqFuncDialedS_506 : EqFuncDialedS (DE G0) (DE G0 506) := by unfold EqFuncDialedS; intros; refine lk (g := 506) rfl Tryz.func77 msslices_EqualFunc___impl_Dialed___impl_Dialed_impl_Dialed_impl_Dialed_ ?_; apply EqFuncDialed_b (DE G0)  <;> assumption
theorem dequalLoggedS_510 : equalLoggedS (DE G0 510) := by unfold equalLoggedS; intros; refine lk (g := 510) rfl Tryz.func80 msimpl_equalLogged ?_; apply equalLogged_b (DE G0) dEqualDialedS_507 <;> assumption
theorem dEqFuncLoggedS_509 : EqFuncLoggedS (DE G0) (DE G0 509) := by unfold EqFuncLoggedS; intros; refine lk (g := 509) rfl Tryz.func79 msslices_EqualFunc___impl_Logged___impl_Logged_impl_Logged_impl_Logged_ ?_; apply EqFuncLogged_b (DE G0)  <;> assumption
theorem dEqualWorldsS_500 : EqualWorldsS (DE G0 500) := by unfold EqualWorldsS; intros; refine lk (g := 500) rfl Tryz.func24 msimplV_EqualWorlds ?_; apply EqualWorlds_b (DE G0) deqIntSS_357 dEqualEndpointsS_502 dEqFuncEndS_501 dEqualRolloutsS_505 dEqualDialedS_507 dEqFuncDialedS_506 dequalLoggedS_510 dEqFuncLoggedS_509 <;> assumption
theorem dFnWorldsS_495 : FnWorldsS (DE G0 495) := by unfold FnWorldsS; intros; refine lk (g := 495) rfl Tryz.func4 mslaws_FnWorlds ?_; apply FnWorlds_b (DE G0) dbigS_460 dDrawNewWorldS_496 dNewWorldS_116 dIsWorldS_184 dListsOfS_123 dAllReachS_234 dDrawEndVersionsS_497 dEndVersionsS_470 deqIntSS_498 dDrawEqualWorldsS_499 dEqualWorldsS_500 <;> assumption
theorem den (G0 : Gl) (av : List V) (h : ArgsV3 av) : DE G0 495 av [] (B true) [] := by
  obtain ⟨bs, hb, rfl⟩ := arg3 h
  exact dFnWorldsS_495 bs hb
end Go.Eng.T

