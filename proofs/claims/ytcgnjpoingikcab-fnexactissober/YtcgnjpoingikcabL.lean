/- Own work: part 45 of the proof of FnExactIsSober. -/
import Derived.Test.YtcgnjpoingikcabP44
import Derived.Test.YtcgnjpoingikcabProg
import Derived.KernelRfl
namespace Go.Eng.T
open Go.Proofs
def fidL : List (Option Nat) := [none, none, none, none, none, none, none, some 9, some 11, none, none, some 13, none, none, none, none, some 28, some 29, some 30, some 31, some 32, none, none, none, none, none, none, none, none, none, none, some 35, some 36, some 37, some 38, some 39, none, none, none, none, none, none, none, none, none, none, none, some 24, some 44, some 45, some 46, some 47, none, none, none, none, none, none, none, none, none, none, some 63, some 64, some 65, none, none, none, none, none, none, some 34, none, none, none, none, none, none, none, none, none, none, none, none, none, none, none, none, none, none, none, none, none, none, none, none, none, none, some 67, some 68, some 69, none, none, none, none, none, none, none, none, none, none, none, none, none, some 43, none, none, none, none, none, none, none, none, none, none, none, none, none, none, none, none, none, none, none, some 73, some 74, some 75, none, none, some 84, some 85, none, none, none, none, none, none, none, none, none, none, none, none, none, none, none, none, none, none, none, none, none, none, none, some 10, none, none, none, none, none, some 86, some 87, none, none, none, none, none, none, none, none, none, none, none, none, none, none, none, none, none, none, none, none, none, none, none, none, none, none, none, none, none, none, none, some 12, some 89, some 90, some 96, none, none, none, none, none, none, none, none, none, none, none, none, none, none, some 33, none, none, none, none, some 97, none, none, none, none, none, none, none, none, none, none, none, none, none, none, none, none, none, none, none, none, some 41, some 40, some 98, some 66, none, none, none, none, none, none, none, none, none, none, none, none, none, none, none, none, some 71, none, none, some 42, none, none, none, none, none, none, none, none, some 72, none, none, none, none, none, none, none, none, none, none, none, none, none, none, none, none, none, none, none, none, none, none, none, none, none, none, none, none, none, none, none, none, none, none, none, none, none, none, none, none, none, none, none, none, none, none, none, none, none, none, none, none, none, none, none, none, none, none, none, none, none, none, none, none, none, none, none, none, none, none, none, none, none, none, none, none, none, none, none, none, none, none, none, none, none, none, none, none, none, none, none, none, none, none, none, none, none, none, none, none, none, none, none, none, none, none, none, none, none, none, none, none, none, none, none, none, none, none, none, none, none, none, none, some 70, some 88, none, none, none, none, none, none, none, none, none, none, none, none, none, none, none, none, none, none, none, none, none, none, none, none, some 3, none, none, none, none, none, none, none, none, none, none, none, none, none, none, none, none, none, none, none, none, none, none, none, none]
def fid : Nat → Option FuncId := fun g => fidL.getD g none
theorem hmix : Try.prog.follows .mixedOrders = true := by kernel_rfl
theorem hFl : fidL.all (fun o => match o with | some f => okF Try.prog f | none => true) = true := by kernel_rfl
theorem hF : ∀ g f, fid g = some f → okF Try.prog f = true := by
  intro g f h
  have := List.all_eq_true.1 hFl (some f) (by
    unfold fid at h
    rw [List.getD_eq_getElem?_getD] at h
    cases hg : fidL[g]? with
    | none => simp [hg] at h
    | some o => simp [hg] at h; subst h; exact List.mem_of_getElem? hg)
  exact this
abbrev G0 : Nat → Prop := fun _ => False
abbrev DD : Dn := Den Try.prog fid G0
theorem lk {g : Nat} {f : FuncId} {fn : Func} {st : List Tmp} {sf : SFn} (hg : fid g = some f) (hfn : Try.prog.funcs[f]? = some fn) (hm : mFn Try.prog fid st sf fn = true) {a : List V} {gi : List O} {r : V} {o : List O}
    (h : Body DD sf a gi r o) : DD g a gi r o :=
  fn_sound hmix (fun _ _ _ _ _ h => h) hF (fun id hid => by rw [hg] at hid; cases hid; exact hfn) hm h
theorem msspec_l1In : mFn Try.prog fid sspec_l1In_t sspec_l1In Try.f34 = true := by kernel_rfl
theorem msspec_IsReserved : mFn Try.prog fid sspec_IsReserved_t sspec_IsReserved Try.f66 = true := by kernel_rfl
theorem msspec_IsHardened : mFn Try.prog fid sspec_IsHardened_t sspec_IsHardened Try.f33 = true := by kernel_rfl
theorem msspec_IsSober : mFn Try.prog fid sspec_IsSober_t sspec_IsSober Try.f10 = true := by kernel_rfl
theorem msimpl_InRange : mFn Try.prog fid simpl_InRange_t simpl_InRange Try.f43 = true := by kernel_rfl
theorem msimpl_IsReserved : mFn Try.prog fid simpl_IsReserved_t simpl_IsReserved Try.f72 = true := by kernel_rfl
theorem msslices_IndexFunc___int_int_ : mFn Try.prog fid sslices_IndexFunc___int_int__t sslices_IndexFunc___int_int_ Try.f88 = true := by kernel_rfl
theorem msslices_ContainsFunc___int_int_ : mFn Try.prog fid sslices_ContainsFunc___int_int__t sslices_ContainsFunc___int_int_ Try.f71 = true := by kernel_rfl
theorem msimpl_IsHardened : mFn Try.prog fid simpl_IsHardened_t simpl_IsHardened Try.f42 = true := by kernel_rfl
theorem msimpl_IsSober_1 : mFn Try.prog fid simpl_IsSober_1_t simpl_IsSober_1 Try.f41 = true := by kernel_rfl
theorem msslices_IndexFunc___impl_Logged_impl_Logged_ : mFn Try.prog fid sslices_IndexFunc___impl_Logged_impl_Logged__t sslices_IndexFunc___impl_Logged_impl_Logged_ Try.f70 = true := by kernel_rfl
theorem msslices_ContainsFunc___impl_Logged_impl_Logged_ : mFn Try.prog fid sslices_ContainsFunc___impl_Logged_impl_Logged__t sslices_ContainsFunc___impl_Logged_impl_Logged_ Try.f40 = true := by kernel_rfl
theorem msimpl_IsSober : mFn Try.prog fid simpl_IsSober_t simpl_IsSober Try.f12 = true := by kernel_rfl
theorem mslaws_szIntS : mFn Try.prog fid slaws_szIntS_t slaws_szIntS Try.f28 = true := by kernel_rfl
theorem mslaws_szBox : mFn Try.prog fid slaws_szBox_t slaws_szBox Try.f96 = true := by kernel_rfl
theorem mslaws_szBoxS : mFn Try.prog fid slaws_szBoxS_t slaws_szBoxS Try.f84 = true := by kernel_rfl
theorem mslaws_szEndpoint : mFn Try.prog fid slaws_szEndpoint_t slaws_szEndpoint Try.f63 = true := by kernel_rfl
theorem mslaws_szEndpointS : mFn Try.prog fid slaws_szEndpointS_t slaws_szEndpointS Try.f29 = true := by kernel_rfl
theorem mslaws_szRollout : mFn Try.prog fid slaws_szRollout_t slaws_szRollout Try.f30 = true := by kernel_rfl
theorem mslaws_szDeal : mFn Try.prog fid slaws_szDeal_t slaws_szDeal Try.f85 = true := by kernel_rfl
theorem mslaws_szDialed : mFn Try.prog fid slaws_szDialed_t slaws_szDialed Try.f64 = true := by kernel_rfl
theorem mslaws_szDialedS : mFn Try.prog fid slaws_szDialedS_t slaws_szDialedS Try.f31 = true := by kernel_rfl
theorem mslaws_szLogged : mFn Try.prog fid slaws_szLogged_t slaws_szLogged Try.f65 = true := by kernel_rfl
theorem mslaws_szLoggedS : mFn Try.prog fid slaws_szLoggedS_t slaws_szLoggedS Try.f32 = true := by kernel_rfl
theorem mslaws_szWorld : mFn Try.prog fid slaws_szWorld_t slaws_szWorld Try.f9 = true := by kernel_rfl
theorem mslaws_toIntS : mFn Try.prog fid slaws_toIntS_t slaws_toIntS Try.f35 = true := by kernel_rfl
theorem mslaws_toBox : mFn Try.prog fid slaws_toBox_t slaws_toBox Try.f97 = true := by kernel_rfl
theorem mslaws_toBoxS : mFn Try.prog fid slaws_toBoxS_t slaws_toBoxS Try.f86 = true := by kernel_rfl
theorem mslaws_toEndpoint : mFn Try.prog fid slaws_toEndpoint_t slaws_toEndpoint Try.f67 = true := by kernel_rfl
theorem mslaws_toEndpointS : mFn Try.prog fid slaws_toEndpointS_t slaws_toEndpointS Try.f36 = true := by kernel_rfl
theorem mslaws_toRollout : mFn Try.prog fid slaws_toRollout_t slaws_toRollout Try.f37 = true := by kernel_rfl
theorem mslaws_toDeal : mFn Try.prog fid slaws_toDeal_t slaws_toDeal Try.f87 = true := by kernel_rfl
theorem mslaws_toDialed : mFn Try.prog fid slaws_toDialed_t slaws_toDialed Try.f68 = true := by kernel_rfl
theorem mslaws_toDialedS : mFn Try.prog fid slaws_toDialedS_t slaws_toDialedS Try.f38 = true := by kernel_rfl
theorem mslaws_toLogged : mFn Try.prog fid slaws_toLogged_t slaws_toLogged Try.f69 = true := by kernel_rfl
theorem mslaws_toLoggedS : mFn Try.prog fid slaws_toLoggedS_t slaws_toLoggedS Try.f39 = true := by kernel_rfl
theorem mslaws_toWorld : mFn Try.prog fid slaws_toWorld_t slaws_toWorld Try.f11 = true := by kernel_rfl
theorem mslaws_eqIntS : mFn Try.prog fid slaws_eqIntS_t slaws_eqIntS Try.f24 = true := by kernel_rfl
theorem mslaws_eqBox : mFn Try.prog fid slaws_eqBox_t slaws_eqBox Try.f98 = true := by kernel_rfl
theorem mslaws_eqBoxS : mFn Try.prog fid slaws_eqBoxS_t slaws_eqBoxS Try.f89 = true := by kernel_rfl
theorem mslaws_eqEndpoint : mFn Try.prog fid slaws_eqEndpoint_t slaws_eqEndpoint Try.f73 = true := by kernel_rfl
theorem mslaws_eqEndpointS : mFn Try.prog fid slaws_eqEndpointS_t slaws_eqEndpointS Try.f44 = true := by kernel_rfl
theorem mslaws_eqRollout : mFn Try.prog fid slaws_eqRollout_t slaws_eqRollout Try.f45 = true := by kernel_rfl
theorem mslaws_eqDeal : mFn Try.prog fid slaws_eqDeal_t slaws_eqDeal Try.f90 = true := by kernel_rfl
theorem mslaws_eqDialed : mFn Try.prog fid slaws_eqDialed_t slaws_eqDialed Try.f74 = true := by kernel_rfl
theorem mslaws_eqDialedS : mFn Try.prog fid slaws_eqDialedS_t slaws_eqDialedS Try.f46 = true := by kernel_rfl
theorem mslaws_eqLogged : mFn Try.prog fid slaws_eqLogged_t slaws_eqLogged Try.f75 = true := by kernel_rfl
theorem mslaws_eqLoggedS : mFn Try.prog fid slaws_eqLoggedS_t slaws_eqLoggedS Try.f47 = true := by kernel_rfl
theorem mslaws_eqWorld : mFn Try.prog fid slaws_eqWorld_t slaws_eqWorld Try.f13 = true := by kernel_rfl
theorem mslaws_FnExactIsSober : mFn Try.prog fid slaws_FnExactIsSober_t slaws_FnExactIsSober Try.f3 = true := by kernel_rfl
theorem dInS_71 : InS (DD 71) := by unfold InS; intros; refine lk (g := 71) rfl Try.func34 msspec_l1In ?_; apply l1In_b _  <;> assumption
theorem dIsReservedS_250 : IsReservedS (DD 250) := by unfold IsReservedS; intros; refine lk (g := 250) rfl Try.func66 msspec_IsReserved ?_; apply sIsReserved_b _ dInS_71 <;> assumption
theorem dIsHardenedS_221 : IsHardenedS (DD 221) := by unfold IsHardenedS; intros; refine lk (g := 221) rfl Try.func33 msspec_IsHardened ?_; apply sIsHardened_b _ dIsReservedS_250 <;> assumption
theorem dIsSoberS_164 : IsSoberS (DD 164) := by unfold IsSoberS; intros; refine lk (g := 164) rfl Try.func10 msspec_IsSober ?_; apply sIsSober_b _ dIsHardenedS_221 dInS_71 <;> assumption
theorem dInS_114 : InS (DD 114) := by unfold InS; intros; refine lk (g := 114) rfl Try.func43 msimpl_InRange ?_; apply InRange_b _  <;> assumption
theorem dIsReservedS_279 : IsReservedS (DD 279) := by unfold IsReservedS; intros; refine lk (g := 279) rfl Try.func72 msimpl_IsReserved ?_; apply iIsReserved_b _ dInS_114 <;> assumption
theorem dIndexFuncS_404 : IndexFuncS DD (DD 404) := by unfold IndexFuncS; intros; refine lk (g := 404) rfl Try.func88 msslices_IndexFunc___int_int_ ?_; apply IndexFunc_b _  <;> assumption
theorem dContainsFuncS_267 : ContainsFuncS DD (DD 267) := by unfold ContainsFuncS; intros; refine lk (g := 267) rfl Try.func71 msslices_ContainsFunc___int_int_ ?_; apply ContainsFunc_b _ dIndexFuncS_404 <;> assumption
theorem dIsHardenedS_270 : IsHardenedS (DD 270) := by unfold IsHardenedS; intros; refine lk (g := 270) rfl Try.func42 msimpl_IsHardened ?_; apply iIsHardened_b _ dIsReservedS_279 dContainsFuncS_267 <;> assumption
theorem dIsSober1S_247 : IsSober1S (DD 247) := by unfold IsSober1S; intros; refine lk (g := 247) rfl Try.func41 msimpl_IsSober_1 ?_; apply IsSober1_b _ dIsHardenedS_270 dInS_114 <;> assumption
theorem dIndexFuncLoggedS_403 : IndexFuncLoggedS DD (DD 403) := by unfold IndexFuncLoggedS; intros; refine lk (g := 403) rfl Try.func70 msslices_IndexFunc___impl_Logged_impl_Logged_ ?_; apply IndexFuncLogged_b _  <;> assumption
theorem dContainsFuncLoggedS_248 : ContainsFuncLoggedS DD (DD 248) := by unfold ContainsFuncLoggedS; intros; refine lk (g := 248) rfl Try.func40 msslices_ContainsFunc___impl_Logged_impl_Logged_ ?_; apply ContainsFuncLogged_b _ dIndexFuncLoggedS_403 <;> assumption
theorem dIsSoberS_203 : IsSoberS (DD 203) := by unfold IsSoberS; intros; refine lk (g := 203) rfl Try.func12 msimpl_IsSober ?_; apply iIsSober_b _ dIsSober1S_247 dContainsFuncLoggedS_248 <;> assumption
theorem dszIntSS_16 : szIntSS (DD 16) := by unfold szIntSS; intros; refine lk (g := 16) rfl Try.func28 mslaws_szIntS ?_; apply szIntS_b _  <;> assumption
theorem dszBoxS_206 : szBoxS (DD 206) := by unfold szBoxS; intros; refine lk (g := 206) rfl Try.func96 mslaws_szBox ?_; apply szBox_b _ dszIntSS_16 <;> assumption
theorem dszBoxSS_139 : szBoxSS (DD 139) := by unfold szBoxSS; intros; refine lk (g := 139) rfl Try.func84 mslaws_szBoxS ?_; apply szBoxS_b _ dszBoxS_206 <;> assumption
theorem dszEndpointS_62 : szEndpointS (DD 62) := by unfold szEndpointS; intros; refine lk (g := 62) rfl Try.func63 mslaws_szEndpoint ?_; apply szEndpoint_b _ dszIntSS_16 dszBoxSS_139 <;> assumption
theorem dszEndpointSS_17 : szEndpointSS (DD 17) := by unfold szEndpointSS; intros; refine lk (g := 17) rfl Try.func29 mslaws_szEndpointS ?_; apply szEndpointS_b _ dszEndpointS_62 <;> assumption
theorem dszRolloutS_18 : szRolloutS (DD 18) := by unfold szRolloutS; intros; refine lk (g := 18) rfl Try.func30 mslaws_szRollout ?_; apply szRollout_b _ dszIntSS_16 <;> assumption
theorem dszDealS_140 : szDealS (DD 140) := by unfold szDealS; intros; refine lk (g := 140) rfl Try.func85 mslaws_szDeal ?_; apply szDeal_b _ dszIntSS_16 <;> assumption
theorem dszDialedS_63 : szDialedS (DD 63) := by unfold szDialedS; intros; refine lk (g := 63) rfl Try.func64 mslaws_szDialed ?_; apply szDialed_b _ dszDealS_140 dszIntSS_16 <;> assumption
theorem dszDialedSS_19 : szDialedSS (DD 19) := by unfold szDialedSS; intros; refine lk (g := 19) rfl Try.func31 mslaws_szDialedS ?_; apply szDialedS_b _ dszDialedS_63 <;> assumption
theorem dszLoggedS_64 : szLoggedS (DD 64) := by unfold szLoggedS; intros; refine lk (g := 64) rfl Try.func65 mslaws_szLogged ?_; apply szLogged_b _ dszDialedS_63 <;> assumption
theorem dszLoggedSS_20 : szLoggedSS (DD 20) := by unfold szLoggedSS; intros; refine lk (g := 20) rfl Try.func32 mslaws_szLoggedS ?_; apply szLoggedS_b _ dszLoggedS_64 <;> assumption
theorem dszWorldS_7 : szWorldS (DD 7) := by unfold szWorldS; intros; refine lk (g := 7) rfl Try.func9 mslaws_szWorld ?_; apply szWorld_b _ dszIntSS_16 dszEndpointSS_17 dszRolloutS_18 dszDialedSS_19 dszLoggedSS_20 <;> assumption
theorem dtoIntSS_31 : toIntSS (DD 31) := by unfold toIntSS; intros; refine lk (g := 31) rfl Try.func35 mslaws_toIntS ?_; apply toIntS_b _  <;> assumption
theorem dtoBoxS_226 : toBoxS (DD 226) := by unfold toBoxS; intros; refine lk (g := 226) rfl Try.func97 mslaws_toBox ?_; apply toBox_b _ dtoIntSS_31 <;> assumption
theorem dtoBoxSS_170 : toBoxSS (DD 170) := by unfold toBoxSS; intros; refine lk (g := 170) rfl Try.func86 mslaws_toBoxS ?_; apply toBoxS_b _ dtoBoxS_226 <;> assumption
theorem dtoEndpointS_98 : toEndpointS (DD 98) := by unfold toEndpointS; intros; refine lk (g := 98) rfl Try.func67 mslaws_toEndpoint ?_; apply toEndpoint_b _ dtoIntSS_31 dtoBoxSS_170 <;> assumption
theorem dtoEndpointSS_32 : toEndpointSS (DD 32) := by unfold toEndpointSS; intros; refine lk (g := 32) rfl Try.func36 mslaws_toEndpointS ?_; apply toEndpointS_b _ dtoEndpointS_98 <;> assumption
theorem dtoRolloutS_33 : toRolloutS (DD 33) := by unfold toRolloutS; intros; refine lk (g := 33) rfl Try.func37 mslaws_toRollout ?_; apply toRollout_b _ dtoIntSS_31 <;> assumption
theorem dtoDealS_171 : toDealS (DD 171) := by unfold toDealS; intros; refine lk (g := 171) rfl Try.func87 mslaws_toDeal ?_; apply toDeal_b _ dtoIntSS_31 <;> assumption
theorem dtoDialedS_99 : toDialedS (DD 99) := by unfold toDialedS; intros; refine lk (g := 99) rfl Try.func68 mslaws_toDialed ?_; apply toDialed_b _ dtoDealS_171 dtoIntSS_31 <;> assumption
theorem dtoDialedSS_34 : toDialedSS (DD 34) := by unfold toDialedSS; intros; refine lk (g := 34) rfl Try.func38 mslaws_toDialedS ?_; apply toDialedS_b _ dtoDialedS_99 <;> assumption
theorem dtoLoggedS_100 : toLoggedS (DD 100) := by unfold toLoggedS; intros; refine lk (g := 100) rfl Try.func69 mslaws_toLogged ?_; apply toLogged_b _ dtoDialedS_99 <;> assumption
theorem dtoLoggedSS_35 : toLoggedSS (DD 35) := by unfold toLoggedSS; intros; refine lk (g := 35) rfl Try.func39 mslaws_toLoggedS ?_; apply toLoggedS_b _ dtoLoggedS_100 <;> assumption
theorem dtoWorldS_8 : toWorldS (DD 8) := by unfold toWorldS; intros; refine lk (g := 8) rfl Try.func11 mslaws_toWorld ?_; apply toWorld_b _ dtoIntSS_31 dtoEndpointSS_32 dtoRolloutS_33 dtoDialedSS_34 dtoLoggedSS_35 <;> assumption
theorem deqIntSS_47 : eqIntSS (DD 47) := by unfold eqIntSS; intros; refine lk (g := 47) rfl Try.func24 mslaws_eqIntS ?_; apply eqIntS_b _  <;> assumption
theorem deqBoxS_249 : eqBoxS (DD 249) := by unfold eqBoxS; intros; refine lk (g := 249) rfl Try.func98 mslaws_eqBox ?_; apply eqBox_b _ deqIntSS_47 <;> assumption
theorem deqBoxSS_204 : eqBoxSS (DD 204) := by unfold eqBoxSS; intros; refine lk (g := 204) rfl Try.func89 mslaws_eqBoxS ?_; apply eqBoxS_b _ deqBoxS_249 <;> assumption
theorem deqEndpointS_134 : eqEndpointS (DD 134) := by unfold eqEndpointS; intros; refine lk (g := 134) rfl Try.func73 mslaws_eqEndpoint ?_; apply eqEndpoint_b _ deqIntSS_47 deqBoxSS_204 <;> assumption
theorem deqEndpointSS_48 : eqEndpointSS (DD 48) := by unfold eqEndpointSS; intros; refine lk (g := 48) rfl Try.func44 mslaws_eqEndpointS ?_; apply eqEndpointS_b _ deqEndpointS_134 <;> assumption
theorem deqRolloutS_49 : eqRolloutS (DD 49) := by unfold eqRolloutS; intros; refine lk (g := 49) rfl Try.func45 mslaws_eqRollout ?_; apply eqRollout_b _ deqIntSS_47 <;> assumption
theorem deqDealS_205 : eqDealS (DD 205) := by unfold eqDealS; intros; refine lk (g := 205) rfl Try.func90 mslaws_eqDeal ?_; apply eqDeal_b _ deqIntSS_47 <;> assumption
theorem deqDialedS_135 : eqDialedS (DD 135) := by unfold eqDialedS; intros; refine lk (g := 135) rfl Try.func74 mslaws_eqDialed ?_; apply eqDialed_b _ deqDealS_205 deqIntSS_47 <;> assumption
theorem deqDialedSS_50 : eqDialedSS (DD 50) := by unfold eqDialedSS; intros; refine lk (g := 50) rfl Try.func46 mslaws_eqDialedS ?_; apply eqDialedS_b _ deqDialedS_135 <;> assumption
theorem deqLoggedS_136 : eqLoggedS (DD 136) := by unfold eqLoggedS; intros; refine lk (g := 136) rfl Try.func75 mslaws_eqLogged ?_; apply eqLogged_b _ deqDialedS_135 <;> assumption
theorem deqLoggedSS_51 : eqLoggedSS (DD 51) := by unfold eqLoggedSS; intros; refine lk (g := 51) rfl Try.func47 mslaws_eqLoggedS ?_; apply eqLoggedS_b _ deqLoggedS_136 <;> assumption
theorem deqWorldS_11 : eqWorldS (DD 11) := by unfold eqWorldS; intros; refine lk (g := 11) rfl Try.func13 mslaws_eqWorld ?_; apply eqWorld_b _ deqIntSS_47 deqEndpointSS_48 deqRolloutS_49 deqDialedSS_50 deqLoggedSS_51 <;> assumption
theorem dFnExactIsSoberS_429 : FnExactIsSoberS (DD 429) := by unfold FnExactIsSoberS; intros; refine lk (g := 429) rfl Try.func3 mslaws_FnExactIsSober ?_; apply FnExactIsSober_b _ dIsSoberS_164 dIsSoberS_203 dszWorldS_7 dtoWorldS_8 deqWorldS_11 <;> assumption
theorem den (av : List V) (h : ArgsV [tyWorld] av) : DD 429 av [] (B true) [] := by
  obtain ⟨v0, r0, h0, hr0, rfl⟩ := h
  obtain ⟨x0, rfl, l0, w0⟩ := argWorld h0
  have z : r0 = [] := hr0
  subst z
  apply dFnExactIsSoberS_429 <;> assumption
end Go.Eng.T

