/- Own work: part 47 of the proof of FnExactStepStage. -/
import Derived.Test.YtncobgjmochecacGreatP46
import Derived.Test.YtncobgjmochecacGreatProg
import Derived.KernelRfl
namespace Go.Eng.T
open Go.Proofs
def fidL : List (Option Nat) := [none, none, none, none, none, none, none, some 29, some 31, none, none, some 33, some 34, some 35, none, none, some 81, some 82, some 83, some 84, some 85, none, some 86, none, none, none, none, none, none, none, none, some 92, some 93, some 94, some 95, some 96, none, none, some 50, none, none, none, none, none, none, none, none, some 99, some 100, some 101, some 102, some 103, some 104, some 105, some 106, some 107, some 108, some 109, some 110, some 111, some 112, some 113, some 150, some 151, some 152, some 153, some 154, some 155, none, none, none, some 71, none, none, none, some 30, none, none, none, none, none, none, some 87, none, none, none, none, none, none, none, none, none, none, none, none, none, none, none, some 161, some 162, some 163, some 130, some 131, some 132, none, none, none, none, some 32, none, none, none, none, none, some 62, none, none, none, none, none, none, none, none, none, none, none, none, some 44, none, none, none, none, none, none, some 164, some 165, some 166, some 167, some 168, some 199, some 200, none, none, none, none, some 67, some 89, some 88, some 90, some 91, none, none, none, none, none, some 156, some 157, none, none, some 128, none, none, none, none, none, none, some 68, some 160, some 144, none, some 202, some 203, some 184, none, none, none, some 13, some 9, some 97, some 98, some 10, none, none, none, none, none, none, none, some 61, some 53, some 18, none, none, some 120, some 121, none, none, none, none, none, none, none, none, none, some 204, some 205, some 234, none, some 64, none, none, none, none, none, some 158, some 159, none, none, none, none, none, none, none, none, some 192, none, some 236, none, some 51, some 119, some 52, none, some 73, some 136, none, none, none, none, none, none, none, none, some 74, none, none, none, none, none, none, some 237, none, none, none, none, some 201, none, none, none, none, none, none, none, none, some 15, some 133, none, some 189, some 188, none, none, none, none, none, none, none, none, none, none, none, none, none, none, none, none, some 235, none, none, none, none, none, none, some 72, none, none, none, none, none, none, none, none, none, none, none, none, none, none, none, none, none, none, none, none, none, none, none, none, none, none, none, none, none, none, none, none, none, none, none, none, none, none, none, none, none, none, none, none, none, none, none, none, none, none, none, none, none, none, none, none, none, none, none, none, none, none, none, none, none, none, none, none, none, none, none, none, none, none, none, none, none, none, none, none, none, none, none, none, none, none, none, none, none, none, none, none, none, none, none, none, none, some 141, none, none, none, none, none, none, none, none, none, none, none, none, none, none, some 221, none, none, none, none, none, none, none, none, none, none, none, none, none, none, none, none, none, none, none, none, none, none, none, none, none, none, none, none, none, none, none, none, none, none, none, none, none, none, none, none, none, none, none, none, none, none, none, none, none, none, none, none, none, none, none, none, none, none, none, none, none, none, some 5, none, none, none, none, none, none, none, none, none, none, none, none, none, none, none, none, none, none, none, none, none, none, none, none, none, none, none, none, none, none, none, none, none, none, none, none, none, none, none, none, none, none, none]
def fid : Nat → Option FuncId := fun g => fidL.getD g none
theorem hmix : Tryz.prog.follows .mixedOrders = true := by kernel_rfl
theorem hFl : fidL.all (fun o => match o with | some f => okF Tryz.prog f | none => true) = true := by kernel_rfl
theorem hF : ∀ g f, fid g = some f → okF Tryz.prog f = true := by
  intro g f h
  have := List.all_eq_true.1 hFl (some f) (by
    unfold fid at h
    rw [List.getD_eq_getElem?_getD] at h
    cases hg : fidL[g]? with
    | none => simp [hg] at h
    | some o => simp [hg] at h; subst h; exact List.mem_of_getElem? hg)
  exact this
abbrev G0 : Gl := ⟨fun _ => False, fun _ => none⟩
abbrev DD : Dn := Den Tryz.prog fid G0
theorem lk {g : Nat} {f : FuncId} {fn : Func} {st : List Tmp} {sf : SFn} (hg : fid g = some f) (hfn : Tryz.prog.funcs[f]? = some fn) (hm : mFn Tryz.prog fid st sf fn = true) {a : List V} {gi : List O} {r : V} {o : List O}
    (h : Body DD sf a gi r o) : DD g a gi r o :=
  fn_sound hmix (fun _ _ _ _ _ h => h) hF (fun id hid => by rw [hg] at hid; cases hid; exact hfn) hm h
theorem msspec_l32End : mFn Tryz.prog fid sspec_l32End_t sspec_l32End Tryz.f153 = true := by kernel_rfl
theorem msspec_l26Copy : mFn Tryz.prog fid sspec_l26Copy_t sspec_l26Copy Tryz.f154 = true := by kernel_rfl
theorem msspec_l32Dialed : mFn Tryz.prog fid sspec_l32Dialed_t sspec_l32Dialed Tryz.f155 = true := by kernel_rfl
theorem msspec_l32Copy : mFn Tryz.prog fid sspec_l32Copy_t sspec_l32Copy Tryz.f86 = true := by kernel_rfl
theorem msspec_l9Has : mFn Tryz.prog fid sspec_l9Has_t sspec_l9Has Tryz.f68 = true := by kernel_rfl
theorem msspec_MaskedBy : mFn Tryz.prog fid sspec_MaskedBy_t sspec_MaskedBy Tryz.f156 = true := by kernel_rfl
theorem msspec_l1In : mFn Tryz.prog fid sspec_l1In_t sspec_l1In Tryz.f71 = true := by kernel_rfl
theorem msspec_SignalOf : mFn Tryz.prog fid sspec_SignalOf_t sspec_SignalOf Tryz.f157 = true := by kernel_rfl
theorem msspec_SignalNow : mFn Tryz.prog fid sspec_SignalNow_t sspec_SignalNow Tryz.f87 = true := by kernel_rfl
theorem msspec_IsRollout : mFn Tryz.prog fid sspec_IsRollout_t sspec_IsRollout Tryz.f67 = true := by kernel_rfl
theorem msspec_NextStage : mFn Tryz.prog fid sspec_NextStage_t sspec_NextStage Tryz.f88 = true := by kernel_rfl
theorem msspec_CeilDiv : mFn Tryz.prog fid sspec_CeilDiv_t sspec_CeilDiv Tryz.f235 = true := by kernel_rfl
theorem msspec_CountIn : mFn Tryz.prog fid sspec_CountIn_t sspec_CountIn Tryz.f201 = true := by kernel_rfl
theorem msspec_IsIn : mFn Tryz.prog fid sspec_IsIn_t sspec_IsIn Tryz.f158 = true := by kernel_rfl
theorem msspec_l4Put : mFn Tryz.prog fid sspec_l4Put_t sspec_l4Put Tryz.f128 = true := by kernel_rfl
theorem msspec_Max : mFn Tryz.prog fid sspec_Max_t sspec_Max Tryz.f159 = true := by kernel_rfl
theorem msspec_EnterStage : mFn Tryz.prog fid sspec_EnterStage_t sspec_EnterStage Tryz.f89 = true := by kernel_rfl
theorem msspec_BackStage : mFn Tryz.prog fid sspec_BackStage_t sspec_BackStage Tryz.f90 = true := by kernel_rfl
theorem msspec_l12Without : mFn Tryz.prog fid sspec_l12Without_t sspec_l12Without Tryz.f160 = true := by kernel_rfl
theorem msspec_CommonOf : mFn Tryz.prog fid sspec_CommonOf_t sspec_CommonOf Tryz.f192 = true := by kernel_rfl
theorem msspec_AreVersions : mFn Tryz.prog fid sspec_AreVersions_t sspec_AreVersions Tryz.f64 = true := by kernel_rfl
theorem msspec_BestCommon : mFn Tryz.prog fid sspec_BestCommon_t sspec_BestCommon Tryz.f144 = true := by kernel_rfl
theorem msspec_LeaveRollout : mFn Tryz.prog fid sspec_LeaveRollout_t sspec_LeaveRollout Tryz.f91 = true := by kernel_rfl
theorem msspec_StepStage : mFn Tryz.prog fid sspec_StepStage_t sspec_StepStage Tryz.f30 = true := by kernel_rfl
theorem msimpl_copyPath : mFn Tryz.prog fid simpl_copyPath_t simpl_copyPath Tryz.f184 = true := by kernel_rfl
theorem msimpl_copyEndpoint : mFn Tryz.prog fid simpl_copyEndpoint_t simpl_copyEndpoint Tryz.f131 = true := by kernel_rfl
theorem msimpl_copyRollout : mFn Tryz.prog fid simpl_copyRollout_t simpl_copyRollout Tryz.f130 = true := by kernel_rfl
theorem msimpl_copyDialed : mFn Tryz.prog fid simpl_copyDialed_t simpl_copyDialed Tryz.f132 = true := by kernel_rfl
theorem msimpl_copyWorld : mFn Tryz.prog fid simpl_copyWorld_t simpl_copyWorld Tryz.f50 = true := by kernel_rfl
theorem msslices_Index___int_int_ : mFn Tryz.prog fid sslices_Index___int_int__t sslices_Index___int_int_ Tryz.f141 = true := by kernel_rfl
theorem msslices_Contains___int_int_ : mFn Tryz.prog fid sslices_Contains___int_int__t sslices_Contains___int_int_ Tryz.f61 = true := by kernel_rfl
theorem msimpl_isBad : mFn Tryz.prog fid simpl_isBad_t simpl_isBad Tryz.f119 = true := by kernel_rfl
theorem msimpl_MaskedBy : mFn Tryz.prog fid simpl_MaskedBy_t simpl_MaskedBy Tryz.f120 = true := by kernel_rfl
theorem msimpl_InRange : mFn Tryz.prog fid simpl_InRange_t simpl_InRange Tryz.f62 = true := by kernel_rfl
theorem msimpl_areNumbers_1 : mFn Tryz.prog fid simpl_areNumbers_1_t simpl_areNumbers_1 Tryz.f189 = true := by kernel_rfl
theorem msslices_IndexFunc___int_int_ : mFn Tryz.prog fid sslices_IndexFunc___int_int__t sslices_IndexFunc___int_int_ Tryz.f221 = true := by kernel_rfl
theorem msslices_ContainsFunc___int_int_ : mFn Tryz.prog fid sslices_ContainsFunc___int_int__t sslices_ContainsFunc___int_int_ Tryz.f188 = true := by kernel_rfl
theorem msimpl_areNumbers : mFn Tryz.prog fid simpl_areNumbers_t simpl_areNumbers Tryz.f136 = true := by kernel_rfl
theorem msimpl_SignalOf : mFn Tryz.prog fid simpl_SignalOf_t simpl_SignalOf Tryz.f121 = true := by kernel_rfl
theorem msimpl_SignalNow : mFn Tryz.prog fid simpl_SignalNow_t simpl_SignalNow Tryz.f44 = true := by kernel_rfl
theorem msimpl_IsRollout : mFn Tryz.prog fid simpl_IsRollout_t simpl_IsRollout Tryz.f13 = true := by kernel_rfl
theorem msimpl_NextStage : mFn Tryz.prog fid simpl_NextStage_t simpl_NextStage Tryz.f97 = true := by kernel_rfl
theorem msimpl_CeilDiv : mFn Tryz.prog fid simpl_CeilDiv_t simpl_CeilDiv Tryz.f72 = true := by kernel_rfl
theorem msimpl_CountIn : mFn Tryz.prog fid simpl_CountIn_t simpl_CountIn Tryz.f15 = true := by kernel_rfl
theorem msimpl_IsIn : mFn Tryz.prog fid simpl_IsIn_t simpl_IsIn Tryz.f51 = true := by kernel_rfl
theorem msimplV_withVersion : mFn Tryz.prog fid simplV_withVersion_t simplV_withVersion Tryz.f52 = true := by kernel_rfl
theorem msimplV_EnterStage : mFn Tryz.prog fid simplV_EnterStage_t simplV_EnterStage Tryz.f9 = true := by kernel_rfl
theorem msimpl_BackStage : mFn Tryz.prog fid simpl_BackStage_t simpl_BackStage Tryz.f98 = true := by kernel_rfl
theorem msimpl_without : mFn Tryz.prog fid simpl_without_t simpl_without Tryz.f53 = true := by kernel_rfl
theorem msimpl_CommonOf : mFn Tryz.prog fid simpl_CommonOf_t simpl_CommonOf Tryz.f74 = true := by kernel_rfl
theorem msimpl_AreVersions : mFn Tryz.prog fid simpl_AreVersions_t simpl_AreVersions Tryz.f73 = true := by kernel_rfl
theorem msimpl_BestCommon : mFn Tryz.prog fid simpl_BestCommon_t simpl_BestCommon Tryz.f18 = true := by kernel_rfl
theorem msimpl_LeaveRollout : mFn Tryz.prog fid simpl_LeaveRollout_t simpl_LeaveRollout Tryz.f10 = true := by kernel_rfl
theorem msimpl_StepStage : mFn Tryz.prog fid simpl_StepStage_t simpl_StepStage Tryz.f32 = true := by kernel_rfl
theorem mslaws_szIntS : mFn Tryz.prog fid slaws_szIntS_t slaws_szIntS Tryz.f81 = true := by kernel_rfl
theorem mslaws_szBox : mFn Tryz.prog fid slaws_szBox_t slaws_szBox Tryz.f234 = true := by kernel_rfl
theorem mslaws_szBoxS : mFn Tryz.prog fid slaws_szBoxS_t slaws_szBoxS Tryz.f199 = true := by kernel_rfl
theorem mslaws_szEndpoint : mFn Tryz.prog fid slaws_szEndpoint_t slaws_szEndpoint Tryz.f150 = true := by kernel_rfl
theorem mslaws_szEndpointS : mFn Tryz.prog fid slaws_szEndpointS_t slaws_szEndpointS Tryz.f82 = true := by kernel_rfl
theorem mslaws_szRollout : mFn Tryz.prog fid slaws_szRollout_t slaws_szRollout Tryz.f83 = true := by kernel_rfl
theorem mslaws_szDeal : mFn Tryz.prog fid slaws_szDeal_t slaws_szDeal Tryz.f200 = true := by kernel_rfl
theorem mslaws_szDialed : mFn Tryz.prog fid slaws_szDialed_t slaws_szDialed Tryz.f151 = true := by kernel_rfl
theorem mslaws_szDialedS : mFn Tryz.prog fid slaws_szDialedS_t slaws_szDialedS Tryz.f84 = true := by kernel_rfl
theorem mslaws_szLogged : mFn Tryz.prog fid slaws_szLogged_t slaws_szLogged Tryz.f152 = true := by kernel_rfl
theorem mslaws_szLoggedS : mFn Tryz.prog fid slaws_szLoggedS_t slaws_szLoggedS Tryz.f85 = true := by kernel_rfl
theorem mslaws_szWorld : mFn Tryz.prog fid slaws_szWorld_t slaws_szWorld Tryz.f29 = true := by kernel_rfl
theorem mslaws_toIntS : mFn Tryz.prog fid slaws_toIntS_t slaws_toIntS Tryz.f92 = true := by kernel_rfl
theorem mslaws_toBox : mFn Tryz.prog fid slaws_toBox_t slaws_toBox Tryz.f236 = true := by kernel_rfl
theorem mslaws_toBoxS : mFn Tryz.prog fid slaws_toBoxS_t slaws_toBoxS Tryz.f202 = true := by kernel_rfl
theorem mslaws_toEndpoint : mFn Tryz.prog fid slaws_toEndpoint_t slaws_toEndpoint Tryz.f161 = true := by kernel_rfl
theorem mslaws_toEndpointS : mFn Tryz.prog fid slaws_toEndpointS_t slaws_toEndpointS Tryz.f93 = true := by kernel_rfl
theorem mslaws_toRollout : mFn Tryz.prog fid slaws_toRollout_t slaws_toRollout Tryz.f94 = true := by kernel_rfl
theorem mslaws_toDeal : mFn Tryz.prog fid slaws_toDeal_t slaws_toDeal Tryz.f203 = true := by kernel_rfl
theorem mslaws_toDialed : mFn Tryz.prog fid slaws_toDialed_t slaws_toDialed Tryz.f162 = true := by kernel_rfl
theorem mslaws_toDialedS : mFn Tryz.prog fid slaws_toDialedS_t slaws_toDialedS Tryz.f95 = true := by kernel_rfl
theorem mslaws_toLogged : mFn Tryz.prog fid slaws_toLogged_t slaws_toLogged Tryz.f163 = true := by kernel_rfl
theorem mslaws_toLoggedS : mFn Tryz.prog fid slaws_toLoggedS_t slaws_toLoggedS Tryz.f96 = true := by kernel_rfl
theorem mslaws_toWorld : mFn Tryz.prog fid slaws_toWorld_t slaws_toWorld Tryz.f31 = true := by kernel_rfl
theorem mslaws_eqIntS : mFn Tryz.prog fid slaws_eqIntS_t slaws_eqIntS Tryz.f99 = true := by kernel_rfl
theorem mslaws_eqBox : mFn Tryz.prog fid slaws_eqBox_t slaws_eqBox Tryz.f237 = true := by kernel_rfl
theorem mslaws_eqBoxS : mFn Tryz.prog fid slaws_eqBoxS_t slaws_eqBoxS Tryz.f204 = true := by kernel_rfl
theorem mslaws_eqEndpoint : mFn Tryz.prog fid slaws_eqEndpoint_t slaws_eqEndpoint Tryz.f164 = true := by kernel_rfl
theorem mslaws_eqEndpointS : mFn Tryz.prog fid slaws_eqEndpointS_t slaws_eqEndpointS Tryz.f100 = true := by kernel_rfl
theorem mslaws_eqRollout : mFn Tryz.prog fid slaws_eqRollout_t slaws_eqRollout Tryz.f101 = true := by kernel_rfl
theorem mslaws_eqDeal : mFn Tryz.prog fid slaws_eqDeal_t slaws_eqDeal Tryz.f205 = true := by kernel_rfl
theorem mslaws_eqDialed : mFn Tryz.prog fid slaws_eqDialed_t slaws_eqDialed Tryz.f165 = true := by kernel_rfl
theorem mslaws_eqDialedS : mFn Tryz.prog fid slaws_eqDialedS_t slaws_eqDialedS Tryz.f102 = true := by kernel_rfl
theorem mslaws_eqLogged : mFn Tryz.prog fid slaws_eqLogged_t slaws_eqLogged Tryz.f166 = true := by kernel_rfl
theorem mslaws_eqLoggedS : mFn Tryz.prog fid slaws_eqLoggedS_t slaws_eqLoggedS Tryz.f103 = true := by kernel_rfl
theorem mslaws_eqWorld : mFn Tryz.prog fid slaws_eqWorld_t slaws_eqWorld Tryz.f33 = true := by kernel_rfl
theorem mslaws_markIntS : mFn Tryz.prog fid slaws_markIntS_t slaws_markIntS Tryz.f104 = true := by kernel_rfl
theorem mslaws_markBoxS : mFn Tryz.prog fid slaws_markBoxS_t slaws_markBoxS Tryz.f167 = true := by kernel_rfl
theorem mslaws_markEndpointS : mFn Tryz.prog fid slaws_markEndpointS_t slaws_markEndpointS Tryz.f105 = true := by kernel_rfl
theorem mslaws_markRollout : mFn Tryz.prog fid slaws_markRollout_t slaws_markRollout Tryz.f106 = true := by kernel_rfl
theorem mslaws_markDialedS : mFn Tryz.prog fid slaws_markDialedS_t slaws_markDialedS Tryz.f107 = true := by kernel_rfl
theorem mslaws_markLoggedS : mFn Tryz.prog fid slaws_markLoggedS_t slaws_markLoggedS Tryz.f108 = true := by kernel_rfl
theorem mslaws_markWorld : mFn Tryz.prog fid slaws_markWorld_t slaws_markWorld Tryz.f34 = true := by kernel_rfl
theorem mslaws_heldIntS : mFn Tryz.prog fid slaws_heldIntS_t slaws_heldIntS Tryz.f109 = true := by kernel_rfl
theorem mslaws_heldBoxS : mFn Tryz.prog fid slaws_heldBoxS_t slaws_heldBoxS Tryz.f168 = true := by kernel_rfl
theorem mslaws_heldEndpointS : mFn Tryz.prog fid slaws_heldEndpointS_t slaws_heldEndpointS Tryz.f110 = true := by kernel_rfl
theorem mslaws_heldRollout : mFn Tryz.prog fid slaws_heldRollout_t slaws_heldRollout Tryz.f111 = true := by kernel_rfl
theorem mslaws_heldDialedS : mFn Tryz.prog fid slaws_heldDialedS_t slaws_heldDialedS Tryz.f112 = true := by kernel_rfl
theorem mslaws_heldLoggedS : mFn Tryz.prog fid slaws_heldLoggedS_t slaws_heldLoggedS Tryz.f113 = true := by kernel_rfl
theorem mslaws_heldWorld : mFn Tryz.prog fid slaws_heldWorld_t slaws_heldWorld Tryz.f35 = true := by kernel_rfl
theorem mslaws_FnExactStepStage : mFn Tryz.prog fid slaws_FnExactStepStage_t slaws_FnExactStepStage Tryz.f5 = true := by kernel_rfl
theorem dcpEndpointS_65 : cpEndpointS (DD 65) := by unfold cpEndpointS; intros; refine lk (g := 65) rfl Tryz.func153 msspec_l32End ?_; apply l32End_b _  <;> assumption
theorem dcpRolloutS_66 : cpRolloutS (DD 66) := by unfold cpRolloutS; intros; refine lk (g := 66) rfl Tryz.func154 msspec_l26Copy ?_; apply l26Copy_b _  <;> assumption
theorem dcpDialedS_67 : cpDialedS (DD 67) := by unfold cpDialedS; intros; refine lk (g := 67) rfl Tryz.func155 msspec_l32Dialed ?_; apply l32Dialed_b _  <;> assumption
theorem dcpWorldS_22 : cpWorldS (DD 22) := by unfold cpWorldS; intros; refine lk (g := 22) rfl Tryz.func86 msspec_l32Copy ?_; apply l32Copy_b _ dcpEndpointS_65 dcpRolloutS_66 dcpDialedS_67 <;> assumption
theorem dHasS_166 : HasS (DD 166) := by unfold HasS; intros; refine lk (g := 166) rfl Tryz.func68 msspec_l9Has ?_; apply l9Has_b _  <;> assumption
theorem dMaskedByS_155 : MaskedByS (DD 155) := by unfold MaskedByS; intros; refine lk (g := 155) rfl Tryz.func156 msspec_MaskedBy ?_; apply sMaskedBy_b _ dHasS_166 <;> assumption
theorem dInS_71 : InS (DD 71) := by unfold InS; intros; refine lk (g := 71) rfl Tryz.func71 msspec_l1In ?_; apply l1In_b _  <;> assumption
theorem dSignalOfS_156 : SignalOfS (DD 156) := by unfold SignalOfS; intros; refine lk (g := 156) rfl Tryz.func157 msspec_SignalOf ?_; apply sSignalOf_b _ dInS_71 <;> assumption
theorem dSignalNowS_82 : SignalNowS (DD 82) := by unfold SignalNowS; intros; refine lk (g := 82) rfl Tryz.func87 msspec_SignalNow ?_; apply sSignalNow_b _ dMaskedByS_155 dSignalOfS_156 <;> assumption
theorem dIsRolloutS_145 : IsRolloutS (DD 145) := by unfold IsRolloutS; intros; refine lk (g := 145) rfl Tryz.func67 msspec_IsRollout ?_; apply sIsRollout_b _ dInS_71 <;> assumption
theorem dNextStageS_147 : NextStageS (DD 147) := by unfold NextStageS; intros; refine lk (g := 147) rfl Tryz.func88 msspec_NextStage ?_; apply sNextStage_b _ dcpRolloutS_66 dIsRolloutS_145 <;> assumption
theorem dCeilDivS_284 : CeilDivS (DD 284) := by unfold CeilDivS; intros; refine lk (g := 284) rfl Tryz.func235 msspec_CeilDiv ?_; apply sCeilDiv_b _ dInS_71 <;> assumption
theorem dCountInS_254 : CountInS (DD 254) := by unfold CountInS; intros; refine lk (g := 254) rfl Tryz.func201 msspec_CountIn ?_; apply sCountIn_b _ dIsRolloutS_145 dInS_71 dCeilDivS_284 <;> assumption
theorem dIsInS_214 : IsInS (DD 214) := by unfold IsInS; intros; refine lk (g := 214) rfl Tryz.func158 msspec_IsIn ?_; apply sIsIn_b _ dCountInS_254 <;> assumption
theorem dl4PutS_159 : l4PutS (DD 159) := by unfold l4PutS; intros; refine lk (g := 159) rfl Tryz.func128 msspec_l4Put ?_; apply l4Put_b _  <;> assumption
theorem dMaxIS_215 : MaxIS (DD 215) := by unfold MaxIS; intros; refine lk (g := 215) rfl Tryz.func159 msspec_Max ?_; apply sMax_b _  <;> assumption
theorem dEnterStageS_146 : EnterStageS (DD 146) := by unfold EnterStageS; intros; refine lk (g := 146) rfl Tryz.func89 msspec_EnterStage ?_; apply sEnterStage_b _ dcpWorldS_22 dIsRolloutS_145 dIsInS_214 dl4PutS_159 dMaxIS_215 <;> assumption
theorem dBackStageS_148 : BackStageS (DD 148) := by unfold BackStageS; intros; refine lk (g := 148) rfl Tryz.func90 msspec_BackStage ?_; apply sBackStage_b _ dcpRolloutS_66 dIsRolloutS_145 <;> assumption
theorem dl12WithoutS_167 : l12WithoutS (DD 167) := by unfold l12WithoutS; intros; refine lk (g := 167) rfl Tryz.func160 msspec_l12Without ?_; apply l12Without_b _  <;> assumption
theorem dCommonOfS_224 : CommonOfS (DD 224) := by unfold CommonOfS; intros; refine lk (g := 224) rfl Tryz.func192 msspec_CommonOf ?_; apply sCommonOf_b _ dHasS_166 <;> assumption
theorem dAreVersionsS_208 : AreVersionsS (DD 208) := by unfold AreVersionsS; intros; refine lk (g := 208) rfl Tryz.func64 msspec_AreVersions ?_; apply sAreVersions_b _ dInS_71 <;> assumption
theorem dBestCommonS_168 : BestCommonS (DD 168) := by unfold BestCommonS; intros; refine lk (g := 168) rfl Tryz.func144 msspec_BestCommon ?_; apply sBestCommon_b _ dCommonOfS_224 dAreVersionsS_208 <;> assumption
theorem dLeaveRolloutS_149 : LeaveRolloutS (DD 149) := by unfold LeaveRolloutS; intros; refine lk (g := 149) rfl Tryz.func91 msspec_LeaveRollout ?_; apply sLeaveRollout_b _ dcpWorldS_22 dl12WithoutS_167 dBestCommonS_168 <;> assumption
theorem dStepStageS_75 : StepStageS (DD 75) := by unfold StepStageS; intros; refine lk (g := 75) rfl Tryz.func30 msspec_StepStage ?_; apply sStepStage_b _ dcpWorldS_22 dSignalNowS_82 dNextStageS_147 dEnterStageS_146 dBackStageS_148 dLeaveRolloutS_149 <;> assumption
theorem dcpPathS_172 : cpPathS (DD 172) := by unfold cpPathS; intros; refine lk (g := 172) rfl Tryz.func184 msimpl_copyPath ?_; apply copyPath_b _  <;> assumption
theorem dcpEndpointS_102 : cpEndpointS (DD 102) := by unfold cpEndpointS; intros; refine lk (g := 102) rfl Tryz.func131 msimpl_copyEndpoint ?_; apply copyEndpoint_b _ dcpPathS_172 <;> assumption
theorem dcpRolloutS_101 : cpRolloutS (DD 101) := by unfold cpRolloutS; intros; refine lk (g := 101) rfl Tryz.func130 msimpl_copyRollout ?_; apply copyRollout_b _  <;> assumption
theorem dcpDialedS_103 : cpDialedS (DD 103) := by unfold cpDialedS; intros; refine lk (g := 103) rfl Tryz.func132 msimpl_copyDialed ?_; apply copyDialed_b _  <;> assumption
theorem dcpWorldS_38 : cpWorldS (DD 38) := by unfold cpWorldS; intros; refine lk (g := 38) rfl Tryz.func50 msimpl_copyWorld ?_; apply copyWorld_b _ dcpEndpointS_102 dcpRolloutS_101 dcpDialedS_103 <;> assumption
theorem dIndexS_389 : IndexS (DD 389) := by unfold IndexS; intros; refine lk (g := 389) rfl Tryz.func141 msslices_Index___int_int_ ?_; apply Index_b _  <;> assumption
theorem dHasS_188 : HasS (DD 188) := by unfold HasS; intros; refine lk (g := 188) rfl Tryz.func61 msslices_Contains___int_int_ ?_; apply Contains_b _ dIndexS_389 <;> assumption
theorem dIsBadDialS_229 : IsBadDialS (DD 229) := by unfold IsBadDialS; intros; refine lk (g := 229) rfl Tryz.func119 msimpl_isBad ?_; apply isBad_b _ dHasS_188 <;> assumption
theorem dMaskedByS_193 : MaskedByS (DD 193) := by unfold MaskedByS; intros; refine lk (g := 193) rfl Tryz.func120 msimpl_MaskedBy ?_; apply iMaskedBy_b _ dIsBadDialS_229 <;> assumption
theorem dInS_114 : InS (DD 114) := by unfold InS; intros; refine lk (g := 114) rfl Tryz.func62 msimpl_InRange ?_; apply InRange_b _  <;> assumption
theorem dareNumbers1S_266 : areNumbers1S (DD 266) := by unfold areNumbers1S; intros; refine lk (g := 266) rfl Tryz.func189 msimpl_areNumbers_1 ?_; apply areNumbers1_b _ dInS_114 <;> assumption
theorem dIndexFuncS_404 : IndexFuncS DD (DD 404) := by unfold IndexFuncS; intros; refine lk (g := 404) rfl Tryz.func221 msslices_IndexFunc___int_int_ ?_; apply IndexFunc_b _  <;> assumption
theorem dContainsFuncS_267 : ContainsFuncS DD (DD 267) := by unfold ContainsFuncS; intros; refine lk (g := 267) rfl Tryz.func188 msslices_ContainsFunc___int_int_ ?_; apply ContainsFunc_b _ dIndexFuncS_404 <;> assumption
theorem dareNumbersS_233 : areNumbersS (DD 233) := by unfold areNumbersS; intros; refine lk (g := 233) rfl Tryz.func136 msimpl_areNumbers ?_; apply areNumbers_b _ dareNumbers1S_266 dContainsFuncS_267 <;> assumption
theorem dSignalOfS_194 : SignalOfS (DD 194) := by unfold SignalOfS; intros; refine lk (g := 194) rfl Tryz.func121 msimpl_SignalOf ?_; apply iSignalOf_b _ dareNumbersS_233 dInS_114 <;> assumption
theorem dSignalNowS_127 : SignalNowS (DD 127) := by unfold SignalNowS; intros; refine lk (g := 127) rfl Tryz.func44 msimpl_SignalNow ?_; apply iSignalNow_b _ dMaskedByS_193 dSignalOfS_194 <;> assumption
theorem dIsRolloutS_176 : IsRolloutS (DD 176) := by unfold IsRolloutS; intros; refine lk (g := 176) rfl Tryz.func13 msimpl_IsRollout ?_; apply iIsRollout_b _ dInS_114 <;> assumption
theorem dNextStageS_178 : NextStageS (DD 178) := by unfold NextStageS; intros; refine lk (g := 178) rfl Tryz.func97 msimpl_NextStage ?_; apply iNextStage_b _ dcpRolloutS_101 dIsRolloutS_176 <;> assumption
theorem dCeilDivS_291 : CeilDivS (DD 291) := by unfold CeilDivS; intros; refine lk (g := 291) rfl Tryz.func72 msimpl_CeilDiv ?_; apply iCeilDiv_b _ dInS_114 <;> assumption
theorem dCountInS_263 : CountInS (DD 263) := by unfold CountInS; intros; refine lk (g := 263) rfl Tryz.func15 msimpl_CountIn ?_; apply iCountIn_b _ dIsRolloutS_176 dInS_114 dCeilDivS_291 <;> assumption
theorem dIsInS_228 : IsInS (DD 228) := by unfold IsInS; intros; refine lk (g := 228) rfl Tryz.func51 msimpl_IsIn ?_; apply iIsIn_b _ dCountInS_263 <;> assumption
theorem dInsertS_264 : InsertS (DD 264) := fun l i v hl hi => insert_den (fid := fid) (g := 264) (k := 133) (t3 := Tryz.laysNm221_ren.t 3) rfl (fun b off n c i vb voff m vc cs vs w h1 h2 h3 h4 h5 h6 h7 h8 h9 h10 h11 h12 h13 tA tB kA kB h14 h15 h16 h17 h18 => Any2.slices_Insert_int_shift Tryz.laysNm221 b off n c i vb voff m vc cs vs w h1 h2 h3 h4 h5 h6 h7 h8 h9 h10 h11 h12 h13 tA tB kA kB h14 h15 h16 h17 h18) (fun b off n c vb voff m vc vs w h1 h2 h3 h4 h5 h6 h7 h8 => Any2.slices_Insert_int_end_room Tryz.laysNm221 b off n c vb voff m vc vs w h1 h2 h3 h4 h5 h6 h7 h8) (fun base n c vb voff m vc cs vs w h1 h2 h3 h4 h5 h6 h7 h8 h9 h10 => Any2.slices_Insert_int_end_grow Tryz.laysNm221 base n c vb voff m vc cs vs w h1 h2 h3 h4 h5 h6 h7 h8 h9 h10) (fun b off n c i vb voff m vc cs vs w h1 h2 h3 h4 h5 h6 h7 h8 h9 h10 h11 => Any2.slices_Insert_int_grow Tryz.laysNm221 b off n c i vb voff m vc cs vs w h1 h2 h3 h4 h5 h6 h7 h8 h9 h10 h11) l i v hl hi
theorem dwithVersionS_230 : withVersionS (DD 230) := by unfold withVersionS; intros; refine lk (g := 230) rfl Tryz.func52 msimplV_withVersion ?_; apply withVersion_b _ dInsertS_264 <;> assumption
theorem dEnterStageS_177 : EnterStageS (DD 177) := by unfold EnterStageS; intros; refine lk (g := 177) rfl Tryz.func9 msimplV_EnterStage ?_; apply iEnterStage_b _ dcpWorldS_38 dIsRolloutS_176 dIsInS_228 dwithVersionS_230 <;> assumption
theorem dBackStageS_179 : BackStageS (DD 179) := by unfold BackStageS; intros; refine lk (g := 179) rfl Tryz.func98 msimpl_BackStage ?_; apply iBackStage_b _ dcpRolloutS_101 dIsRolloutS_176 <;> assumption
theorem dwithoutS_189 : withoutS (DD 189) := by unfold withoutS; intros; refine lk (g := 189) rfl Tryz.func53 msimpl_without ?_; apply without_b _ dHasS_188 <;> assumption
theorem dCommonOfS_242 : CommonOfS (DD 242) := by unfold CommonOfS; intros; refine lk (g := 242) rfl Tryz.func74 msimpl_CommonOf ?_; apply iCommonOf_b _ dHasS_188 <;> assumption
theorem dAreVersionsS_232 : AreVersionsS (DD 232) := by unfold AreVersionsS; intros; refine lk (g := 232) rfl Tryz.func73 msimpl_AreVersions ?_; apply iAreVersions_b _ dInS_114 <;> assumption
theorem dBestCommonS_190 : BestCommonS (DD 190) := by unfold BestCommonS; intros; refine lk (g := 190) rfl Tryz.func18 msimpl_BestCommon ?_; apply iBestCommon_b _ dCommonOfS_242 dAreVersionsS_232 <;> assumption
theorem dLeaveRolloutS_180 : LeaveRolloutS (DD 180) := by unfold LeaveRolloutS; intros; refine lk (g := 180) rfl Tryz.func10 msimpl_LeaveRollout ?_; apply iLeaveRollout_b _ dcpWorldS_38 dwithoutS_189 dBestCommonS_190 <;> assumption
theorem dStepStageS_108 : StepStageS (DD 108) := by unfold StepStageS; intros; refine lk (g := 108) rfl Tryz.func32 msimpl_StepStage ?_; apply iStepStage_b _ dcpWorldS_38 dSignalNowS_127 dNextStageS_178 dEnterStageS_177 dBackStageS_179 dLeaveRolloutS_180 <;> assumption
theorem dszIntSS_16 : szIntSS (DD 16) := by unfold szIntSS; intros; refine lk (g := 16) rfl Tryz.func81 mslaws_szIntS ?_; apply szIntS_b _  <;> assumption
theorem dszBoxS_206 : szBoxS (DD 206) := by unfold szBoxS; intros; refine lk (g := 206) rfl Tryz.func234 mslaws_szBox ?_; apply szBox_b _ dszIntSS_16 <;> assumption
theorem dszBoxSS_139 : szBoxSS (DD 139) := by unfold szBoxSS; intros; refine lk (g := 139) rfl Tryz.func199 mslaws_szBoxS ?_; apply szBoxS_b _ dszBoxS_206 <;> assumption
theorem dszEndpointS_62 : szEndpointS (DD 62) := by unfold szEndpointS; intros; refine lk (g := 62) rfl Tryz.func150 mslaws_szEndpoint ?_; apply szEndpoint_b _ dszIntSS_16 dszBoxSS_139 <;> assumption
theorem dszEndpointSS_17 : szEndpointSS (DD 17) := by unfold szEndpointSS; intros; refine lk (g := 17) rfl Tryz.func82 mslaws_szEndpointS ?_; apply szEndpointS_b _ dszEndpointS_62 <;> assumption
theorem dszRolloutS_18 : szRolloutS (DD 18) := by unfold szRolloutS; intros; refine lk (g := 18) rfl Tryz.func83 mslaws_szRollout ?_; apply szRollout_b _ dszIntSS_16 <;> assumption
theorem dszDealS_140 : szDealS (DD 140) := by unfold szDealS; intros; refine lk (g := 140) rfl Tryz.func200 mslaws_szDeal ?_; apply szDeal_b _ dszIntSS_16 <;> assumption
theorem dszDialedS_63 : szDialedS (DD 63) := by unfold szDialedS; intros; refine lk (g := 63) rfl Tryz.func151 mslaws_szDialed ?_; apply szDialed_b _ dszDealS_140 dszIntSS_16 <;> assumption
theorem dszDialedSS_19 : szDialedSS (DD 19) := by unfold szDialedSS; intros; refine lk (g := 19) rfl Tryz.func84 mslaws_szDialedS ?_; apply szDialedS_b _ dszDialedS_63 <;> assumption
theorem dszLoggedS_64 : szLoggedS (DD 64) := by unfold szLoggedS; intros; refine lk (g := 64) rfl Tryz.func152 mslaws_szLogged ?_; apply szLogged_b _ dszDialedS_63 <;> assumption
theorem dszLoggedSS_20 : szLoggedSS (DD 20) := by unfold szLoggedSS; intros; refine lk (g := 20) rfl Tryz.func85 mslaws_szLoggedS ?_; apply szLoggedS_b _ dszLoggedS_64 <;> assumption
theorem dszWorldS_7 : szWorldS (DD 7) := by unfold szWorldS; intros; refine lk (g := 7) rfl Tryz.func29 mslaws_szWorld ?_; apply szWorld_b _ dszIntSS_16 dszEndpointSS_17 dszRolloutS_18 dszDialedSS_19 dszLoggedSS_20 <;> assumption
theorem dtoIntSS_31 : toIntSS (DD 31) := by unfold toIntSS; intros; refine lk (g := 31) rfl Tryz.func92 mslaws_toIntS ?_; apply toIntS_b _  <;> assumption
theorem dtoBoxS_226 : toBoxS (DD 226) := by unfold toBoxS; intros; refine lk (g := 226) rfl Tryz.func236 mslaws_toBox ?_; apply toBox_b _ dtoIntSS_31 <;> assumption
theorem dtoBoxSS_170 : toBoxSS (DD 170) := by unfold toBoxSS; intros; refine lk (g := 170) rfl Tryz.func202 mslaws_toBoxS ?_; apply toBoxS_b _ dtoBoxS_226 <;> assumption
theorem dtoEndpointS_98 : toEndpointS (DD 98) := by unfold toEndpointS; intros; refine lk (g := 98) rfl Tryz.func161 mslaws_toEndpoint ?_; apply toEndpoint_b _ dtoIntSS_31 dtoBoxSS_170 <;> assumption
theorem dtoEndpointSS_32 : toEndpointSS (DD 32) := by unfold toEndpointSS; intros; refine lk (g := 32) rfl Tryz.func93 mslaws_toEndpointS ?_; apply toEndpointS_b _ dtoEndpointS_98 <;> assumption
theorem dtoRolloutS_33 : toRolloutS (DD 33) := by unfold toRolloutS; intros; refine lk (g := 33) rfl Tryz.func94 mslaws_toRollout ?_; apply toRollout_b _ dtoIntSS_31 <;> assumption
theorem dtoDealS_171 : toDealS (DD 171) := by unfold toDealS; intros; refine lk (g := 171) rfl Tryz.func203 mslaws_toDeal ?_; apply toDeal_b _ dtoIntSS_31 <;> assumption
theorem dtoDialedS_99 : toDialedS (DD 99) := by unfold toDialedS; intros; refine lk (g := 99) rfl Tryz.func162 mslaws_toDialed ?_; apply toDialed_b _ dtoDealS_171 dtoIntSS_31 <;> assumption
theorem dtoDialedSS_34 : toDialedSS (DD 34) := by unfold toDialedSS; intros; refine lk (g := 34) rfl Tryz.func95 mslaws_toDialedS ?_; apply toDialedS_b _ dtoDialedS_99 <;> assumption
theorem dtoLoggedS_100 : toLoggedS (DD 100) := by unfold toLoggedS; intros; refine lk (g := 100) rfl Tryz.func163 mslaws_toLogged ?_; apply toLogged_b _ dtoDialedS_99 <;> assumption
theorem dtoLoggedSS_35 : toLoggedSS (DD 35) := by unfold toLoggedSS; intros; refine lk (g := 35) rfl Tryz.func96 mslaws_toLoggedS ?_; apply toLoggedS_b _ dtoLoggedS_100 <;> assumption
theorem dtoWorldS_8 : toWorldS (DD 8) := by unfold toWorldS; intros; refine lk (g := 8) rfl Tryz.func31 mslaws_toWorld ?_; apply toWorld_b _ dtoIntSS_31 dtoEndpointSS_32 dtoRolloutS_33 dtoDialedSS_34 dtoLoggedSS_35 <;> assumption
theorem deqIntSS_47 : eqIntSS (DD 47) := by unfold eqIntSS; intros; refine lk (g := 47) rfl Tryz.func99 mslaws_eqIntS ?_; apply eqIntS_b _  <;> assumption
theorem deqBoxS_249 : eqBoxS (DD 249) := by unfold eqBoxS; intros; refine lk (g := 249) rfl Tryz.func237 mslaws_eqBox ?_; apply eqBox_b _ deqIntSS_47 <;> assumption
theorem deqBoxSS_204 : eqBoxSS (DD 204) := by unfold eqBoxSS; intros; refine lk (g := 204) rfl Tryz.func204 mslaws_eqBoxS ?_; apply eqBoxS_b _ deqBoxS_249 <;> assumption
theorem deqEndpointS_134 : eqEndpointS (DD 134) := by unfold eqEndpointS; intros; refine lk (g := 134) rfl Tryz.func164 mslaws_eqEndpoint ?_; apply eqEndpoint_b _ deqIntSS_47 deqBoxSS_204 <;> assumption
theorem deqEndpointSS_48 : eqEndpointSS (DD 48) := by unfold eqEndpointSS; intros; refine lk (g := 48) rfl Tryz.func100 mslaws_eqEndpointS ?_; apply eqEndpointS_b _ deqEndpointS_134 <;> assumption
theorem deqRolloutS_49 : eqRolloutS (DD 49) := by unfold eqRolloutS; intros; refine lk (g := 49) rfl Tryz.func101 mslaws_eqRollout ?_; apply eqRollout_b _ deqIntSS_47 <;> assumption
theorem deqDealS_205 : eqDealS (DD 205) := by unfold eqDealS; intros; refine lk (g := 205) rfl Tryz.func205 mslaws_eqDeal ?_; apply eqDeal_b _ deqIntSS_47 <;> assumption
theorem deqDialedS_135 : eqDialedS (DD 135) := by unfold eqDialedS; intros; refine lk (g := 135) rfl Tryz.func165 mslaws_eqDialed ?_; apply eqDialed_b _ deqDealS_205 deqIntSS_47 <;> assumption
theorem deqDialedSS_50 : eqDialedSS (DD 50) := by unfold eqDialedSS; intros; refine lk (g := 50) rfl Tryz.func102 mslaws_eqDialedS ?_; apply eqDialedS_b _ deqDialedS_135 <;> assumption
theorem deqLoggedS_136 : eqLoggedS (DD 136) := by unfold eqLoggedS; intros; refine lk (g := 136) rfl Tryz.func166 mslaws_eqLogged ?_; apply eqLogged_b _ deqDialedS_135 <;> assumption
theorem deqLoggedSS_51 : eqLoggedSS (DD 51) := by unfold eqLoggedSS; intros; refine lk (g := 51) rfl Tryz.func103 mslaws_eqLoggedS ?_; apply eqLoggedS_b _ deqLoggedS_136 <;> assumption
theorem deqWorldS_11 : eqWorldS (DD 11) := by unfold eqWorldS; intros; refine lk (g := 11) rfl Tryz.func33 mslaws_eqWorld ?_; apply eqWorld_b _ deqIntSS_47 deqEndpointSS_48 deqRolloutS_49 deqDialedSS_50 deqLoggedSS_51 <;> assumption
theorem dmarkIntSS_52 : markIntSS (DD 52) := by unfold markIntSS; intros; refine lk (g := 52) rfl Tryz.func104 mslaws_markIntS ?_; apply markIntS_b _  <;> assumption
theorem dmarkBoxSS_137 : markBoxSS (DD 137) := by unfold markBoxSS; intros; refine lk (g := 137) rfl Tryz.func167 mslaws_markBoxS ?_; apply markBoxS_b _ dmarkIntSS_52 <;> assumption
theorem dmarkEndpointSS_53 : markEndpointSS (DD 53) := by unfold markEndpointSS; intros; refine lk (g := 53) rfl Tryz.func105 mslaws_markEndpointS ?_; apply markEndpointS_b _ dmarkIntSS_52 dmarkBoxSS_137 <;> assumption
theorem dmarkRolloutS_54 : markRolloutS (DD 54) := by unfold markRolloutS; intros; refine lk (g := 54) rfl Tryz.func106 mslaws_markRollout ?_; apply markRollout_b _ dmarkIntSS_52 <;> assumption
theorem dmarkDialedSS_55 : markDialedSS (DD 55) := by unfold markDialedSS; intros; refine lk (g := 55) rfl Tryz.func107 mslaws_markDialedS ?_; apply markDialedS_b _ dmarkIntSS_52 <;> assumption
theorem dmarkLoggedSS_56 : markLoggedSS (DD 56) := by unfold markLoggedSS; intros; refine lk (g := 56) rfl Tryz.func108 mslaws_markLoggedS ?_; apply markLoggedS_b _ dmarkIntSS_52 <;> assumption
theorem dmarkWorldS_12 : markWorldS (DD 12) := by unfold markWorldS; intros; refine lk (g := 12) rfl Tryz.func34 mslaws_markWorld ?_; apply markWorld_b _ dmarkIntSS_52 dmarkEndpointSS_53 dmarkRolloutS_54 dmarkDialedSS_55 dmarkLoggedSS_56 <;> assumption
theorem dheldIntSS_57 : heldIntSS (DD 57) := by unfold heldIntSS; intros; refine lk (g := 57) rfl Tryz.func109 mslaws_heldIntS ?_; apply heldIntS_b _  <;> assumption
theorem dheldBoxSS_138 : heldBoxSS (DD 138) := by unfold heldBoxSS; intros; refine lk (g := 138) rfl Tryz.func168 mslaws_heldBoxS ?_; apply heldBoxS_b _ dheldIntSS_57 <;> assumption
theorem dheldEndpointSS_58 : heldEndpointSS (DD 58) := by unfold heldEndpointSS; intros; refine lk (g := 58) rfl Tryz.func110 mslaws_heldEndpointS ?_; apply heldEndpointS_b _ dheldIntSS_57 dheldBoxSS_138 <;> assumption
theorem dheldRolloutS_59 : heldRolloutS (DD 59) := by unfold heldRolloutS; intros; refine lk (g := 59) rfl Tryz.func111 mslaws_heldRollout ?_; apply heldRollout_b _ dheldIntSS_57 <;> assumption
theorem dheldDialedSS_60 : heldDialedSS (DD 60) := by unfold heldDialedSS; intros; refine lk (g := 60) rfl Tryz.func112 mslaws_heldDialedS ?_; apply heldDialedS_b _ dheldIntSS_57 <;> assumption
theorem dheldLoggedSS_61 : heldLoggedSS (DD 61) := by unfold heldLoggedSS; intros; refine lk (g := 61) rfl Tryz.func113 mslaws_heldLoggedS ?_; apply heldLoggedS_b _ dheldIntSS_57 <;> assumption
theorem dheldWorldS_13 : heldWorldS (DD 13) := by unfold heldWorldS; intros; refine lk (g := 13) rfl Tryz.func35 mslaws_heldWorld ?_; apply heldWorld_b _ dheldIntSS_57 dheldEndpointSS_58 dheldRolloutS_59 dheldDialedSS_60 dheldLoggedSS_61 <;> assumption
theorem dFnExactStepStageS_467 : FnExactStepStageS (DD 467) := by unfold FnExactStepStageS; intros; refine lk (g := 467) rfl Tryz.func5 mslaws_FnExactStepStage ?_; apply FnExactStepStage_b _ dStepStageS_75 dStepStageS_108 dszWorldS_7 dtoWorldS_8 deqWorldS_11 dmarkWorldS_12 dheldWorldS_13 <;> assumption
theorem den (av : List V) (h : ArgsV [tyWorld] av) : DD 467 av [] (B true) [] := by
  obtain ⟨v0, r0, h0, hr0, rfl⟩ := h
  obtain ⟨x0, rfl, l0, w0⟩ := argWorld h0
  have z : r0 = [] := hr0
  subst z
  apply dFnExactStepStageS_467 <;> assumption
end Go.Eng.T

