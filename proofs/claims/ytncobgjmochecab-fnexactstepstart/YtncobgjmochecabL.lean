/- Own work: part 46 of the proof of FnExactStepStart. -/
import Derived.Test.YtncobgjmochecabP45
import Derived.Test.YtncobgjmochecabProg
import Derived.KernelRfl
namespace Go.Eng.T
open Go.Proofs
def fidL : List (Option Nat) := [none, none, none, none, none, none, none, some 7, some 9, none, none, some 11, some 12, some 13, none, none, some 23, some 24, some 25, some 26, some 27, none, some 28, none, none, none, none, none, none, none, none, some 33, some 34, some 35, some 36, some 37, none, none, some 38, none, none, none, none, none, none, none, none, some 16, some 42, some 43, some 44, some 45, some 17, some 46, some 47, some 48, some 49, some 18, some 50, some 51, some 52, some 53, some 61, some 62, some 63, some 64, some 58, some 65, none, none, none, some 66, none, none, some 19, none, none, none, none, none, none, none, none, none, none, none, none, none, none, none, none, none, none, none, none, none, none, none, some 68, some 69, some 70, some 71, some 72, some 73, none, none, none, some 20, none, none, none, none, none, none, some 74, none, none, none, none, none, none, none, none, none, none, none, none, none, none, none, none, none, none, none, some 77, some 78, some 79, some 80, some 81, some 86, some 87, none, none, none, none, some 29, some 8, none, none, none, none, none, none, none, none, none, none, none, none, some 31, none, none, none, none, none, none, none, none, none, none, some 89, some 90, some 91, none, none, none, some 39, some 10, none, none, none, none, none, none, none, none, none, none, none, none, none, none, none, none, none, none, none, none, none, none, none, none, none, none, some 95, some 96, some 110, none, none, none, none, none, none, none, some 30, some 32, none, none, none, none, none, none, none, none, none, none, some 111, none, some 40, none, some 41, none, none, none, none, none, none, none, none, none, none, none, none, none, none, none, none, none, none, some 113, none, none, none, none, some 67, none, none, none, none, none, none, none, none, some 75, some 76, none, none, none, none, none, none, none, none, none, none, none, none, none, none, none, none, none, none, none, some 88, none, none, none, none, none, none, some 92, none, none, none, none, none, none, none, none, none, none, none, none, none, none, none, none, none, none, none, none, none, none, none, none, none, none, none, none, none, none, none, none, none, none, none, none, none, none, none, none, none, none, none, none, none, none, none, none, none, none, none, none, none, none, none, none, none, none, none, none, none, none, none, none, none, none, none, none, none, none, none, none, none, none, none, none, none, none, none, none, none, none, none, none, none, none, none, none, none, none, none, none, none, none, none, none, none, none, none, none, none, none, none, none, none, none, none, none, none, none, none, none, none, none, none, none, none, none, none, none, none, none, none, none, none, none, none, none, none, none, none, none, none, none, none, none, none, none, none, none, none, none, none, none, none, none, none, none, none, none, none, none, none, none, none, none, none, none, none, none, none, none, none, none, some 5, none, none, none, none, none, none, none, none, none, none, none, none, none, none, none, none, none, none, none, none, none, none, none, none, none, none, none, none, none, none, none, none, none, none, none, none, none, none, none, none, none, none, none, none, none, none, none, none, none, none, none, none, none, none]
def fid : Nat → Option FuncId := fun g => fidL.getD g none
theorem hmix : Try.prog.follows .mixedOrders = true := by kernel_rfl
theorem hFl : fidL.all (fun o => match o with | some f => okF Try.prog f | none => true) = true := by kernel_rfl
theorem hF : ∀ g f, fid g = some f → okF Try.prog f = true := by
  intro g f h
  have := List.all_eq_true.1 hFl (some f) (by
    unfold fid at h
    rw [List.getD_eq_getElem?_getD] at h
    cases hg : fidL[g]? with
    | none => simp [hg] at h
    | some o => simp [hg] at h; subst h; exact List.mem_of_getElem? hg)
  exact this
abbrev G0 : Gl := ⟨fun _ => False, fun _ => none⟩
abbrev DD : Dn := Den Try.prog fid G0
theorem lk {g : Nat} {f : FuncId} {fn : Func} {st : List Tmp} {sf : SFn} (hg : fid g = some f) (hfn : Try.prog.funcs[f]? = some fn) (hm : mFn Try.prog fid st sf fn = true) {a : List V} {gi : List O} {r : V} {o : List O}
    (h : Body DD sf a gi r o) : DD g a gi r o :=
  fn_sound hmix (fun _ _ _ _ _ h => h) hF (fun id hid => by rw [hg] at hid; cases hid; exact hfn) hm h
theorem msspec_l32End : mFn Try.prog fid sspec_l32End_t sspec_l32End Try.f64 = true := by kernel_rfl
theorem msspec_l26Copy : mFn Try.prog fid sspec_l26Copy_t sspec_l26Copy Try.f58 = true := by kernel_rfl
theorem msspec_l32Dialed : mFn Try.prog fid sspec_l32Dialed_t sspec_l32Dialed Try.f65 = true := by kernel_rfl
theorem msspec_l32Copy : mFn Try.prog fid sspec_l32Copy_t sspec_l32Copy Try.f28 = true := by kernel_rfl
theorem msspec_l1In : mFn Try.prog fid sspec_l1In_t sspec_l1In Try.f66 = true := by kernel_rfl
theorem msspec_IsRollout : mFn Try.prog fid sspec_IsRollout_t sspec_IsRollout Try.f29 = true := by kernel_rfl
theorem msspec_CeilDiv : mFn Try.prog fid sspec_CeilDiv_t sspec_CeilDiv Try.f88 = true := by kernel_rfl
theorem msspec_CountIn : mFn Try.prog fid sspec_CountIn_t sspec_CountIn Try.f67 = true := by kernel_rfl
theorem msspec_IsIn : mFn Try.prog fid sspec_IsIn_t sspec_IsIn Try.f30 = true := by kernel_rfl
theorem msspec_l4Put : mFn Try.prog fid sspec_l4Put_t sspec_l4Put Try.f31 = true := by kernel_rfl
theorem msspec_Max : mFn Try.prog fid sspec_Max_t sspec_Max Try.f32 = true := by kernel_rfl
theorem msspec_EnterStage : mFn Try.prog fid sspec_EnterStage_t sspec_EnterStage Try.f8 = true := by kernel_rfl
theorem msspec_StepStart : mFn Try.prog fid sspec_StepStart_t sspec_StepStart Try.f19 = true := by kernel_rfl
theorem msimpl_copyPath : mFn Try.prog fid simpl_copyPath_t simpl_copyPath Try.f91 = true := by kernel_rfl
theorem msimpl_copyEndpoint : mFn Try.prog fid simpl_copyEndpoint_t simpl_copyEndpoint Try.f72 = true := by kernel_rfl
theorem msimpl_copyRollout : mFn Try.prog fid simpl_copyRollout_t simpl_copyRollout Try.f71 = true := by kernel_rfl
theorem msimpl_copyDialed : mFn Try.prog fid simpl_copyDialed_t simpl_copyDialed Try.f73 = true := by kernel_rfl
theorem msimpl_copyWorld : mFn Try.prog fid simpl_copyWorld_t simpl_copyWorld Try.f38 = true := by kernel_rfl
theorem msimpl_InRange : mFn Try.prog fid simpl_InRange_t simpl_InRange Try.f74 = true := by kernel_rfl
theorem msimpl_IsRollout : mFn Try.prog fid simpl_IsRollout_t simpl_IsRollout Try.f39 = true := by kernel_rfl
theorem msimpl_CeilDiv : mFn Try.prog fid simpl_CeilDiv_t simpl_CeilDiv Try.f92 = true := by kernel_rfl
theorem msimpl_CountIn : mFn Try.prog fid simpl_CountIn_t simpl_CountIn Try.f75 = true := by kernel_rfl
theorem msimpl_IsIn : mFn Try.prog fid simpl_IsIn_t simpl_IsIn Try.f40 = true := by kernel_rfl
theorem msimplV_withVersion : mFn Try.prog fid simplV_withVersion_t simplV_withVersion Try.f41 = true := by kernel_rfl
theorem msimplV_EnterStage : mFn Try.prog fid simplV_EnterStage_t simplV_EnterStage Try.f10 = true := by kernel_rfl
theorem msimpl_StepStart : mFn Try.prog fid simpl_StepStart_t simpl_StepStart Try.f20 = true := by kernel_rfl
theorem mslaws_szIntS : mFn Try.prog fid slaws_szIntS_t slaws_szIntS Try.f23 = true := by kernel_rfl
theorem mslaws_szBox : mFn Try.prog fid slaws_szBox_t slaws_szBox Try.f110 = true := by kernel_rfl
theorem mslaws_szBoxS : mFn Try.prog fid slaws_szBoxS_t slaws_szBoxS Try.f86 = true := by kernel_rfl
theorem mslaws_szEndpoint : mFn Try.prog fid slaws_szEndpoint_t slaws_szEndpoint Try.f61 = true := by kernel_rfl
theorem mslaws_szEndpointS : mFn Try.prog fid slaws_szEndpointS_t slaws_szEndpointS Try.f24 = true := by kernel_rfl
theorem mslaws_szRollout : mFn Try.prog fid slaws_szRollout_t slaws_szRollout Try.f25 = true := by kernel_rfl
theorem mslaws_szDeal : mFn Try.prog fid slaws_szDeal_t slaws_szDeal Try.f87 = true := by kernel_rfl
theorem mslaws_szDialed : mFn Try.prog fid slaws_szDialed_t slaws_szDialed Try.f62 = true := by kernel_rfl
theorem mslaws_szDialedS : mFn Try.prog fid slaws_szDialedS_t slaws_szDialedS Try.f26 = true := by kernel_rfl
theorem mslaws_szLogged : mFn Try.prog fid slaws_szLogged_t slaws_szLogged Try.f63 = true := by kernel_rfl
theorem mslaws_szLoggedS : mFn Try.prog fid slaws_szLoggedS_t slaws_szLoggedS Try.f27 = true := by kernel_rfl
theorem mslaws_szWorld : mFn Try.prog fid slaws_szWorld_t slaws_szWorld Try.f7 = true := by kernel_rfl
theorem mslaws_toIntS : mFn Try.prog fid slaws_toIntS_t slaws_toIntS Try.f33 = true := by kernel_rfl
theorem mslaws_toBox : mFn Try.prog fid slaws_toBox_t slaws_toBox Try.f111 = true := by kernel_rfl
theorem mslaws_toBoxS : mFn Try.prog fid slaws_toBoxS_t slaws_toBoxS Try.f89 = true := by kernel_rfl
theorem mslaws_toEndpoint : mFn Try.prog fid slaws_toEndpoint_t slaws_toEndpoint Try.f68 = true := by kernel_rfl
theorem mslaws_toEndpointS : mFn Try.prog fid slaws_toEndpointS_t slaws_toEndpointS Try.f34 = true := by kernel_rfl
theorem mslaws_toRollout : mFn Try.prog fid slaws_toRollout_t slaws_toRollout Try.f35 = true := by kernel_rfl
theorem mslaws_toDeal : mFn Try.prog fid slaws_toDeal_t slaws_toDeal Try.f90 = true := by kernel_rfl
theorem mslaws_toDialed : mFn Try.prog fid slaws_toDialed_t slaws_toDialed Try.f69 = true := by kernel_rfl
theorem mslaws_toDialedS : mFn Try.prog fid slaws_toDialedS_t slaws_toDialedS Try.f36 = true := by kernel_rfl
theorem mslaws_toLogged : mFn Try.prog fid slaws_toLogged_t slaws_toLogged Try.f70 = true := by kernel_rfl
theorem mslaws_toLoggedS : mFn Try.prog fid slaws_toLoggedS_t slaws_toLoggedS Try.f37 = true := by kernel_rfl
theorem mslaws_toWorld : mFn Try.prog fid slaws_toWorld_t slaws_toWorld Try.f9 = true := by kernel_rfl
theorem mslaws_eqIntS : mFn Try.prog fid slaws_eqIntS_t slaws_eqIntS Try.f16 = true := by kernel_rfl
theorem mslaws_eqBox : mFn Try.prog fid slaws_eqBox_t slaws_eqBox Try.f113 = true := by kernel_rfl
theorem mslaws_eqBoxS : mFn Try.prog fid slaws_eqBoxS_t slaws_eqBoxS Try.f95 = true := by kernel_rfl
theorem mslaws_eqEndpoint : mFn Try.prog fid slaws_eqEndpoint_t slaws_eqEndpoint Try.f77 = true := by kernel_rfl
theorem mslaws_eqEndpointS : mFn Try.prog fid slaws_eqEndpointS_t slaws_eqEndpointS Try.f42 = true := by kernel_rfl
theorem mslaws_eqRollout : mFn Try.prog fid slaws_eqRollout_t slaws_eqRollout Try.f43 = true := by kernel_rfl
theorem mslaws_eqDeal : mFn Try.prog fid slaws_eqDeal_t slaws_eqDeal Try.f96 = true := by kernel_rfl
theorem mslaws_eqDialed : mFn Try.prog fid slaws_eqDialed_t slaws_eqDialed Try.f78 = true := by kernel_rfl
theorem mslaws_eqDialedS : mFn Try.prog fid slaws_eqDialedS_t slaws_eqDialedS Try.f44 = true := by kernel_rfl
theorem mslaws_eqLogged : mFn Try.prog fid slaws_eqLogged_t slaws_eqLogged Try.f79 = true := by kernel_rfl
theorem mslaws_eqLoggedS : mFn Try.prog fid slaws_eqLoggedS_t slaws_eqLoggedS Try.f45 = true := by kernel_rfl
theorem mslaws_eqWorld : mFn Try.prog fid slaws_eqWorld_t slaws_eqWorld Try.f11 = true := by kernel_rfl
theorem mslaws_markIntS : mFn Try.prog fid slaws_markIntS_t slaws_markIntS Try.f17 = true := by kernel_rfl
theorem mslaws_markBoxS : mFn Try.prog fid slaws_markBoxS_t slaws_markBoxS Try.f80 = true := by kernel_rfl
theorem mslaws_markEndpointS : mFn Try.prog fid slaws_markEndpointS_t slaws_markEndpointS Try.f46 = true := by kernel_rfl
theorem mslaws_markRollout : mFn Try.prog fid slaws_markRollout_t slaws_markRollout Try.f47 = true := by kernel_rfl
theorem mslaws_markDialedS : mFn Try.prog fid slaws_markDialedS_t slaws_markDialedS Try.f48 = true := by kernel_rfl
theorem mslaws_markLoggedS : mFn Try.prog fid slaws_markLoggedS_t slaws_markLoggedS Try.f49 = true := by kernel_rfl
theorem mslaws_markWorld : mFn Try.prog fid slaws_markWorld_t slaws_markWorld Try.f12 = true := by kernel_rfl
theorem mslaws_heldIntS : mFn Try.prog fid slaws_heldIntS_t slaws_heldIntS Try.f18 = true := by kernel_rfl
theorem mslaws_heldBoxS : mFn Try.prog fid slaws_heldBoxS_t slaws_heldBoxS Try.f81 = true := by kernel_rfl
theorem mslaws_heldEndpointS : mFn Try.prog fid slaws_heldEndpointS_t slaws_heldEndpointS Try.f50 = true := by kernel_rfl
theorem mslaws_heldRollout : mFn Try.prog fid slaws_heldRollout_t slaws_heldRollout Try.f51 = true := by kernel_rfl
theorem mslaws_heldDialedS : mFn Try.prog fid slaws_heldDialedS_t slaws_heldDialedS Try.f52 = true := by kernel_rfl
theorem mslaws_heldLoggedS : mFn Try.prog fid slaws_heldLoggedS_t slaws_heldLoggedS Try.f53 = true := by kernel_rfl
theorem mslaws_heldWorld : mFn Try.prog fid slaws_heldWorld_t slaws_heldWorld Try.f13 = true := by kernel_rfl
theorem mslaws_FnExactStepStart : mFn Try.prog fid slaws_FnExactStepStart_t slaws_FnExactStepStart Try.f5 = true := by kernel_rfl
theorem dcpEndpointS_65 : cpEndpointS (DD 65) := by unfold cpEndpointS; intros; refine lk (g := 65) rfl Try.func64 msspec_l32End ?_; apply l32End_b _  <;> assumption
theorem dcpRolloutS_66 : cpRolloutS (DD 66) := by unfold cpRolloutS; intros; refine lk (g := 66) rfl Try.func58 msspec_l26Copy ?_; apply l26Copy_b _  <;> assumption
theorem dcpDialedS_67 : cpDialedS (DD 67) := by unfold cpDialedS; intros; refine lk (g := 67) rfl Try.func65 msspec_l32Dialed ?_; apply l32Dialed_b _  <;> assumption
theorem dcpWorldS_22 : cpWorldS (DD 22) := by unfold cpWorldS; intros; refine lk (g := 22) rfl Try.func28 msspec_l32Copy ?_; apply l32Copy_b _ dcpEndpointS_65 dcpRolloutS_66 dcpDialedS_67 <;> assumption
theorem dInS_71 : InS (DD 71) := by unfold InS; intros; refine lk (g := 71) rfl Try.func66 msspec_l1In ?_; apply l1In_b _  <;> assumption
theorem dIsRolloutS_145 : IsRolloutS (DD 145) := by unfold IsRolloutS; intros; refine lk (g := 145) rfl Try.func29 msspec_IsRollout ?_; apply sIsRollout_b _ dInS_71 <;> assumption
theorem dCeilDivS_284 : CeilDivS (DD 284) := by unfold CeilDivS; intros; refine lk (g := 284) rfl Try.func88 msspec_CeilDiv ?_; apply sCeilDiv_b _ dInS_71 <;> assumption
theorem dCountInS_254 : CountInS (DD 254) := by unfold CountInS; intros; refine lk (g := 254) rfl Try.func67 msspec_CountIn ?_; apply sCountIn_b _ dIsRolloutS_145 dInS_71 dCeilDivS_284 <;> assumption
theorem dIsInS_214 : IsInS (DD 214) := by unfold IsInS; intros; refine lk (g := 214) rfl Try.func30 msspec_IsIn ?_; apply sIsIn_b _ dCountInS_254 <;> assumption
theorem dl4PutS_159 : l4PutS (DD 159) := by unfold l4PutS; intros; refine lk (g := 159) rfl Try.func31 msspec_l4Put ?_; apply l4Put_b _  <;> assumption
theorem dMaxIS_215 : MaxIS (DD 215) := by unfold MaxIS; intros; refine lk (g := 215) rfl Try.func32 msspec_Max ?_; apply sMax_b _  <;> assumption
theorem dEnterStageS_146 : EnterStageS (DD 146) := by unfold EnterStageS; intros; refine lk (g := 146) rfl Try.func8 msspec_EnterStage ?_; apply sEnterStage_b _ dcpWorldS_22 dIsRolloutS_145 dIsInS_214 dl4PutS_159 dMaxIS_215 <;> assumption
theorem dStepStartS_74 : StepStartS (DD 74) := by unfold StepStartS; intros; refine lk (g := 74) rfl Try.func19 msspec_StepStart ?_; apply sStepStart_b _ dcpWorldS_22 dIsRolloutS_145 dEnterStageS_146 <;> assumption
theorem dcpPathS_172 : cpPathS (DD 172) := by unfold cpPathS; intros; refine lk (g := 172) rfl Try.func91 msimpl_copyPath ?_; apply copyPath_b _  <;> assumption
theorem dcpEndpointS_102 : cpEndpointS (DD 102) := by unfold cpEndpointS; intros; refine lk (g := 102) rfl Try.func72 msimpl_copyEndpoint ?_; apply copyEndpoint_b _ dcpPathS_172 <;> assumption
theorem dcpRolloutS_101 : cpRolloutS (DD 101) := by unfold cpRolloutS; intros; refine lk (g := 101) rfl Try.func71 msimpl_copyRollout ?_; apply copyRollout_b _  <;> assumption
theorem dcpDialedS_103 : cpDialedS (DD 103) := by unfold cpDialedS; intros; refine lk (g := 103) rfl Try.func73 msimpl_copyDialed ?_; apply copyDialed_b _  <;> assumption
theorem dcpWorldS_38 : cpWorldS (DD 38) := by unfold cpWorldS; intros; refine lk (g := 38) rfl Try.func38 msimpl_copyWorld ?_; apply copyWorld_b _ dcpEndpointS_102 dcpRolloutS_101 dcpDialedS_103 <;> assumption
theorem dInS_114 : InS (DD 114) := by unfold InS; intros; refine lk (g := 114) rfl Try.func74 msimpl_InRange ?_; apply InRange_b _  <;> assumption
theorem dIsRolloutS_176 : IsRolloutS (DD 176) := by unfold IsRolloutS; intros; refine lk (g := 176) rfl Try.func39 msimpl_IsRollout ?_; apply iIsRollout_b _ dInS_114 <;> assumption
theorem dCeilDivS_291 : CeilDivS (DD 291) := by unfold CeilDivS; intros; refine lk (g := 291) rfl Try.func92 msimpl_CeilDiv ?_; apply iCeilDiv_b _ dInS_114 <;> assumption
theorem dCountInS_263 : CountInS (DD 263) := by unfold CountInS; intros; refine lk (g := 263) rfl Try.func75 msimpl_CountIn ?_; apply iCountIn_b _ dIsRolloutS_176 dInS_114 dCeilDivS_291 <;> assumption
theorem dIsInS_228 : IsInS (DD 228) := by unfold IsInS; intros; refine lk (g := 228) rfl Try.func40 msimpl_IsIn ?_; apply iIsIn_b _ dCountInS_263 <;> assumption
theorem dInsertS_264 : InsertS (DD 264) := fun l i v hl hi => insert_den (fid := fid) (g := 264) (k := 76) (t3 := Try.laysNm221_ren.t 3) rfl (fun b off n c i vb voff m vc cs vs w h1 h2 h3 h4 h5 h6 h7 h8 h9 h10 h11 h12 h13 tA tB kA kB h14 h15 h16 h17 h18 => Any2.slices_Insert_int_shift Try.laysNm221 b off n c i vb voff m vc cs vs w h1 h2 h3 h4 h5 h6 h7 h8 h9 h10 h11 h12 h13 tA tB kA kB h14 h15 h16 h17 h18) (fun b off n c vb voff m vc vs w h1 h2 h3 h4 h5 h6 h7 h8 => Any2.slices_Insert_int_end_room Try.laysNm221 b off n c vb voff m vc vs w h1 h2 h3 h4 h5 h6 h7 h8) (fun base n c vb voff m vc cs vs w h1 h2 h3 h4 h5 h6 h7 h8 h9 h10 => Any2.slices_Insert_int_end_grow Try.laysNm221 base n c vb voff m vc cs vs w h1 h2 h3 h4 h5 h6 h7 h8 h9 h10) (fun b off n c i vb voff m vc cs vs w h1 h2 h3 h4 h5 h6 h7 h8 h9 h10 h11 => Any2.slices_Insert_int_grow Try.laysNm221 b off n c i vb voff m vc cs vs w h1 h2 h3 h4 h5 h6 h7 h8 h9 h10 h11) l i v hl hi
theorem dwithVersionS_230 : withVersionS (DD 230) := by unfold withVersionS; intros; refine lk (g := 230) rfl Try.func41 msimplV_withVersion ?_; apply withVersion_b _ dInsertS_264 <;> assumption
theorem dEnterStageS_177 : EnterStageS (DD 177) := by unfold EnterStageS; intros; refine lk (g := 177) rfl Try.func10 msimplV_EnterStage ?_; apply iEnterStage_b _ dcpWorldS_38 dIsRolloutS_176 dIsInS_228 dwithVersionS_230 <;> assumption
theorem dStepStartS_107 : StepStartS (DD 107) := by unfold StepStartS; intros; refine lk (g := 107) rfl Try.func20 msimpl_StepStart ?_; apply iStepStart_b _ dcpWorldS_38 dIsRolloutS_176 dEnterStageS_177 <;> assumption
theorem dszIntSS_16 : szIntSS (DD 16) := by unfold szIntSS; intros; refine lk (g := 16) rfl Try.func23 mslaws_szIntS ?_; apply szIntS_b _  <;> assumption
theorem dszBoxS_206 : szBoxS (DD 206) := by unfold szBoxS; intros; refine lk (g := 206) rfl Try.func110 mslaws_szBox ?_; apply szBox_b _ dszIntSS_16 <;> assumption
theorem dszBoxSS_139 : szBoxSS (DD 139) := by unfold szBoxSS; intros; refine lk (g := 139) rfl Try.func86 mslaws_szBoxS ?_; apply szBoxS_b _ dszBoxS_206 <;> assumption
theorem dszEndpointS_62 : szEndpointS (DD 62) := by unfold szEndpointS; intros; refine lk (g := 62) rfl Try.func61 mslaws_szEndpoint ?_; apply szEndpoint_b _ dszIntSS_16 dszBoxSS_139 <;> assumption
theorem dszEndpointSS_17 : szEndpointSS (DD 17) := by unfold szEndpointSS; intros; refine lk (g := 17) rfl Try.func24 mslaws_szEndpointS ?_; apply szEndpointS_b _ dszEndpointS_62 <;> assumption
theorem dszRolloutS_18 : szRolloutS (DD 18) := by unfold szRolloutS; intros; refine lk (g := 18) rfl Try.func25 mslaws_szRollout ?_; apply szRollout_b _ dszIntSS_16 <;> assumption
theorem dszDealS_140 : szDealS (DD 140) := by unfold szDealS; intros; refine lk (g := 140) rfl Try.func87 mslaws_szDeal ?_; apply szDeal_b _ dszIntSS_16 <;> assumption
theorem dszDialedS_63 : szDialedS (DD 63) := by unfold szDialedS; intros; refine lk (g := 63) rfl Try.func62 mslaws_szDialed ?_; apply szDialed_b _ dszDealS_140 dszIntSS_16 <;> assumption
theorem dszDialedSS_19 : szDialedSS (DD 19) := by unfold szDialedSS; intros; refine lk (g := 19) rfl Try.func26 mslaws_szDialedS ?_; apply szDialedS_b _ dszDialedS_63 <;> assumption
theorem dszLoggedS_64 : szLoggedS (DD 64) := by unfold szLoggedS; intros; refine lk (g := 64) rfl Try.func63 mslaws_szLogged ?_; apply szLogged_b _ dszDialedS_63 <;> assumption
theorem dszLoggedSS_20 : szLoggedSS (DD 20) := by unfold szLoggedSS; intros; refine lk (g := 20) rfl Try.func27 mslaws_szLoggedS ?_; apply szLoggedS_b _ dszLoggedS_64 <;> assumption
theorem dszWorldS_7 : szWorldS (DD 7) := by unfold szWorldS; intros; refine lk (g := 7) rfl Try.func7 mslaws_szWorld ?_; apply szWorld_b _ dszIntSS_16 dszEndpointSS_17 dszRolloutS_18 dszDialedSS_19 dszLoggedSS_20 <;> assumption
theorem dtoIntSS_31 : toIntSS (DD 31) := by unfold toIntSS; intros; refine lk (g := 31) rfl Try.func33 mslaws_toIntS ?_; apply toIntS_b _  <;> assumption
theorem dtoBoxS_226 : toBoxS (DD 226) := by unfold toBoxS; intros; refine lk (g := 226) rfl Try.func111 mslaws_toBox ?_; apply toBox_b _ dtoIntSS_31 <;> assumption
theorem dtoBoxSS_170 : toBoxSS (DD 170) := by unfold toBoxSS; intros; refine lk (g := 170) rfl Try.func89 mslaws_toBoxS ?_; apply toBoxS_b _ dtoBoxS_226 <;> assumption
theorem dtoEndpointS_98 : toEndpointS (DD 98) := by unfold toEndpointS; intros; refine lk (g := 98) rfl Try.func68 mslaws_toEndpoint ?_; apply toEndpoint_b _ dtoIntSS_31 dtoBoxSS_170 <;> assumption
theorem dtoEndpointSS_32 : toEndpointSS (DD 32) := by unfold toEndpointSS; intros; refine lk (g := 32) rfl Try.func34 mslaws_toEndpointS ?_; apply toEndpointS_b _ dtoEndpointS_98 <;> assumption
theorem dtoRolloutS_33 : toRolloutS (DD 33) := by unfold toRolloutS; intros; refine lk (g := 33) rfl Try.func35 mslaws_toRollout ?_; apply toRollout_b _ dtoIntSS_31 <;> assumption
theorem dtoDealS_171 : toDealS (DD 171) := by unfold toDealS; intros; refine lk (g := 171) rfl Try.func90 mslaws_toDeal ?_; apply toDeal_b _ dtoIntSS_31 <;> assumption
theorem dtoDialedS_99 : toDialedS (DD 99) := by unfold toDialedS; intros; refine lk (g := 99) rfl Try.func69 mslaws_toDialed ?_; apply toDialed_b _ dtoDealS_171 dtoIntSS_31 <;> assumption
theorem dtoDialedSS_34 : toDialedSS (DD 34) := by unfold toDialedSS; intros; refine lk (g := 34) rfl Try.func36 mslaws_toDialedS ?_; apply toDialedS_b _ dtoDialedS_99 <;> assumption
theorem dtoLoggedS_100 : toLoggedS (DD 100) := by unfold toLoggedS; intros; refine lk (g := 100) rfl Try.func70 mslaws_toLogged ?_; apply toLogged_b _ dtoDialedS_99 <;> assumption
theorem dtoLoggedSS_35 : toLoggedSS (DD 35) := by unfold toLoggedSS; intros; refine lk (g := 35) rfl Try.func37 mslaws_toLoggedS ?_; apply toLoggedS_b _ dtoLoggedS_100 <;> assumption
theorem dtoWorldS_8 : toWorldS (DD 8) := by unfold toWorldS; intros; refine lk (g := 8) rfl Try.func9 mslaws_toWorld ?_; apply toWorld_b _ dtoIntSS_31 dtoEndpointSS_32 dtoRolloutS_33 dtoDialedSS_34 dtoLoggedSS_35 <;> assumption
theorem deqIntSS_47 : eqIntSS (DD 47) := by unfold eqIntSS; intros; refine lk (g := 47) rfl Try.func16 mslaws_eqIntS ?_; apply eqIntS_b _  <;> assumption
theorem deqBoxS_249 : eqBoxS (DD 249) := by unfold eqBoxS; intros; refine lk (g := 249) rfl Try.func113 mslaws_eqBox ?_; apply eqBox_b _ deqIntSS_47 <;> assumption
theorem deqBoxSS_204 : eqBoxSS (DD 204) := by unfold eqBoxSS; intros; refine lk (g := 204) rfl Try.func95 mslaws_eqBoxS ?_; apply eqBoxS_b _ deqBoxS_249 <;> assumption
theorem deqEndpointS_134 : eqEndpointS (DD 134) := by unfold eqEndpointS; intros; refine lk (g := 134) rfl Try.func77 mslaws_eqEndpoint ?_; apply eqEndpoint_b _ deqIntSS_47 deqBoxSS_204 <;> assumption
theorem deqEndpointSS_48 : eqEndpointSS (DD 48) := by unfold eqEndpointSS; intros; refine lk (g := 48) rfl Try.func42 mslaws_eqEndpointS ?_; apply eqEndpointS_b _ deqEndpointS_134 <;> assumption
theorem deqRolloutS_49 : eqRolloutS (DD 49) := by unfold eqRolloutS; intros; refine lk (g := 49) rfl Try.func43 mslaws_eqRollout ?_; apply eqRollout_b _ deqIntSS_47 <;> assumption
theorem deqDealS_205 : eqDealS (DD 205) := by unfold eqDealS; intros; refine lk (g := 205) rfl Try.func96 mslaws_eqDeal ?_; apply eqDeal_b _ deqIntSS_47 <;> assumption
theorem deqDialedS_135 : eqDialedS (DD 135) := by unfold eqDialedS; intros; refine lk (g := 135) rfl Try.func78 mslaws_eqDialed ?_; apply eqDialed_b _ deqDealS_205 deqIntSS_47 <;> assumption
theorem deqDialedSS_50 : eqDialedSS (DD 50) := by unfold eqDialedSS; intros; refine lk (g := 50) rfl Try.func44 mslaws_eqDialedS ?_; apply eqDialedS_b _ deqDialedS_135 <;> assumption
theorem deqLoggedS_136 : eqLoggedS (DD 136) := by unfold eqLoggedS; intros; refine lk (g := 136) rfl Try.func79 mslaws_eqLogged ?_; apply eqLogged_b _ deqDialedS_135 <;> assumption
theorem deqLoggedSS_51 : eqLoggedSS (DD 51) := by unfold eqLoggedSS; intros; refine lk (g := 51) rfl Try.func45 mslaws_eqLoggedS ?_; apply eqLoggedS_b _ deqLoggedS_136 <;> assumption
theorem deqWorldS_11 : eqWorldS (DD 11) := by unfold eqWorldS; intros; refine lk (g := 11) rfl Try.func11 mslaws_eqWorld ?_; apply eqWorld_b _ deqIntSS_47 deqEndpointSS_48 deqRolloutS_49 deqDialedSS_50 deqLoggedSS_51 <;> assumption
theorem dmarkIntSS_52 : markIntSS (DD 52) := by unfold markIntSS; intros; refine lk (g := 52) rfl Try.func17 mslaws_markIntS ?_; apply markIntS_b _  <;> assumption
theorem dmarkBoxSS_137 : markBoxSS (DD 137) := by unfold markBoxSS; intros; refine lk (g := 137) rfl Try.func80 mslaws_markBoxS ?_; apply markBoxS_b _ dmarkIntSS_52 <;> assumption
theorem dmarkEndpointSS_53 : markEndpointSS (DD 53) := by unfold markEndpointSS; intros; refine lk (g := 53) rfl Try.func46 mslaws_markEndpointS ?_; apply markEndpointS_b _ dmarkIntSS_52 dmarkBoxSS_137 <;> assumption
theorem dmarkRolloutS_54 : markRolloutS (DD 54) := by unfold markRolloutS; intros; refine lk (g := 54) rfl Try.func47 mslaws_markRollout ?_; apply markRollout_b _ dmarkIntSS_52 <;> assumption
theorem dmarkDialedSS_55 : markDialedSS (DD 55) := by unfold markDialedSS; intros; refine lk (g := 55) rfl Try.func48 mslaws_markDialedS ?_; apply markDialedS_b _ dmarkIntSS_52 <;> assumption
theorem dmarkLoggedSS_56 : markLoggedSS (DD 56) := by unfold markLoggedSS; intros; refine lk (g := 56) rfl Try.func49 mslaws_markLoggedS ?_; apply markLoggedS_b _ dmarkIntSS_52 <;> assumption
theorem dmarkWorldS_12 : markWorldS (DD 12) := by unfold markWorldS; intros; refine lk (g := 12) rfl Try.func12 mslaws_markWorld ?_; apply markWorld_b _ dmarkIntSS_52 dmarkEndpointSS_53 dmarkRolloutS_54 dmarkDialedSS_55 dmarkLoggedSS_56 <;> assumption
theorem dheldIntSS_57 : heldIntSS (DD 57) := by unfold heldIntSS; intros; refine lk (g := 57) rfl Try.func18 mslaws_heldIntS ?_; apply heldIntS_b _  <;> assumption
theorem dheldBoxSS_138 : heldBoxSS (DD 138) := by unfold heldBoxSS; intros; refine lk (g := 138) rfl Try.func81 mslaws_heldBoxS ?_; apply heldBoxS_b _ dheldIntSS_57 <;> assumption
theorem dheldEndpointSS_58 : heldEndpointSS (DD 58) := by unfold heldEndpointSS; intros; refine lk (g := 58) rfl Try.func50 mslaws_heldEndpointS ?_; apply heldEndpointS_b _ dheldIntSS_57 dheldBoxSS_138 <;> assumption
theorem dheldRolloutS_59 : heldRolloutS (DD 59) := by unfold heldRolloutS; intros; refine lk (g := 59) rfl Try.func51 mslaws_heldRollout ?_; apply heldRollout_b _ dheldIntSS_57 <;> assumption
theorem dheldDialedSS_60 : heldDialedSS (DD 60) := by unfold heldDialedSS; intros; refine lk (g := 60) rfl Try.func52 mslaws_heldDialedS ?_; apply heldDialedS_b _ dheldIntSS_57 <;> assumption
theorem dheldLoggedSS_61 : heldLoggedSS (DD 61) := by unfold heldLoggedSS; intros; refine lk (g := 61) rfl Try.func53 mslaws_heldLoggedS ?_; apply heldLoggedS_b _ dheldIntSS_57 <;> assumption
theorem dheldWorldS_13 : heldWorldS (DD 13) := by unfold heldWorldS; intros; refine lk (g := 13) rfl Try.func13 mslaws_heldWorld ?_; apply heldWorld_b _ dheldIntSS_57 dheldEndpointSS_58 dheldRolloutS_59 dheldDialedSS_60 dheldLoggedSS_61 <;> assumption
theorem dFnExactStepStartS_456 : FnExactStepStartS (DD 456) := by unfold FnExactStepStartS; intros; refine lk (g := 456) rfl Try.func5 mslaws_FnExactStepStart ?_; apply FnExactStepStart_b _ dStepStartS_74 dStepStartS_107 dszWorldS_7 dtoWorldS_8 deqWorldS_11 dmarkWorldS_12 dheldWorldS_13 <;> assumption
theorem den (av : List V) (h : ArgsV [tyWorld] av) : DD 456 av [] (B true) [] := by
  obtain ⟨v0, r0, h0, hr0, rfl⟩ := h
  obtain ⟨x0, rfl, l0, w0⟩ := argWorld h0
  have z : r0 = [] := hr0
  subst z
  apply dFnExactStepStartS_456 <;> assumption
end Go.Eng.T

