/- Own work: part 46 of the proof of FnExactIsBounded. -/
import Derived.Test.YtncobgjmochecabP45
import Derived.Test.YtncobgjmochecabProg
import Derived.KernelRfl
namespace Go.Eng.T
open Go.Proofs
def fidL : List (Option Nat) := [none, none, none, none, none, none, none, some 7, some 9, none, none, some 11, none, none, none, none, some 23, some 24, some 25, some 26, some 27, none, none, none, none, none, none, none, none, none, none, some 33, some 34, some 35, some 36, some 37, none, none, none, none, none, none, none, none, none, none, none, some 16, some 42, some 43, some 44, some 45, none, none, none, none, none, none, none, none, none, none, some 61, some 62, some 63, none, some 58, none, none, none, none, some 66, none, none, none, none, none, none, none, none, none, none, none, none, none, none, none, some 14, none, none, none, none, none, none, none, none, none, none, some 68, some 69, some 70, none, none, none, none, none, none, none, none, none, none, none, none, none, some 74, none, none, none, none, none, none, none, none, none, none, none, none, none, none, none, none, some 15, none, none, some 77, some 78, some 79, none, none, some 86, some 87, none, none, none, some 82, some 29, none, none, none, none, none, none, none, none, none, some 97, none, none, some 54, some 31, none, some 21, none, none, none, none, some 114, none, none, none, some 89, some 90, none, none, none, some 83, some 39, none, none, none, none, none, none, none, none, none, none, none, some 115, none, none, none, none, none, none, none, some 55, some 56, some 57, none, some 22, none, none, none, some 95, some 96, some 110, none, none, none, none, none, none, none, none, some 32, none, none, none, some 59, none, none, none, none, none, none, some 111, none, none, some 98, none, none, none, none, none, none, none, none, none, none, none, none, none, none, none, some 60, none, none, none, some 113, none, none, none, none, some 67, none, none, none, none, none, none, none, none, some 75, none, none, none, none, none, none, none, none, none, none, none, none, none, none, none, none, none, none, none, none, some 88, none, none, none, none, none, none, some 92, none, none, none, none, none, none, none, none, none, none, none, none, none, none, none, none, none, none, none, none, none, none, none, none, none, none, none, none, none, none, none, none, none, none, none, none, none, none, none, none, none, none, none, none, none, none, none, none, none, none, none, none, none, none, none, none, none, none, none, none, none, none, none, none, none, none, none, none, none, none, none, none, none, none, none, none, none, none, none, none, none, none, none, none, none, none, none, none, none, none, none, none, none, none, none, none, none, some 123, none, none, none, none, none, none, none, none, none, none, none, none, none, none, none, none, none, none, none, none, none, none, none, none, none, none, none, none, none, none, none, none, none, none, none, none, none, none, none, none, none, none, none, none, none, none, none, none, none, none, none, none, none, none, none, none, none, none, none, none, none, none, none, none, none, none, none, some 6, none, none, none, none, none, none, none, none, none, none, none, none, none, none, none, none, none, none, none, none, none, none, none, none, none, none, none, none, none, none, none, none, none, none, none, none, none, none, none, none, none, none, none, none, none, none, none, none, none, none, none, none, none]
def fid : Nat → Option FuncId := fun g => fidL.getD g none
theorem hmix : Try.prog.follows .mixedOrders = true := by kernel_rfl
theorem hFl : fidL.all (fun o => match o with | some f => okF Try.prog f | none => true) = true := by kernel_rfl
theorem hF : ∀ g f, fid g = some f → okF Try.prog f = true := by
  intro g f h
  have := List.all_eq_true.1 hFl (some f) (by
    unfold fid at h
    rw [List.getD_eq_getElem?_getD] at h
    cases hg : fidL[g]? with
    | none => simp [hg] at h
    | some o => simp [hg] at h; subst h; exact List.mem_of_getElem? hg)
  exact this
abbrev G0 : Gl := ⟨fun _ => False, fun _ => none⟩
abbrev DD : Dn := Den Try.prog fid G0
theorem lk {g : Nat} {f : FuncId} {fn : Func} {st : List Tmp} {sf : SFn} (hg : fid g = some f) (hfn : Try.prog.funcs[f]? = some fn) (hm : mFn Try.prog fid st sf fn = true) {a : List V} {gi : List O} {r : V} {o : List O}
    (h : Body DD sf a gi r o) : DD g a gi r o :=
  fn_sound hmix (fun _ _ _ _ _ h => h) hF (fun id hid => by rw [hg] at hid; cases hid; exact hfn) hm h
theorem msspec_l26Copy : mFn Try.prog fid sspec_l26Copy_t sspec_l26Copy Try.f58 = true := by kernel_rfl
theorem msspec_l9Has : mFn Try.prog fid sspec_l9Has_t sspec_l9Has Try.f114 = true := by kernel_rfl
theorem msspec_MaskedBy : mFn Try.prog fid sspec_MaskedBy_t sspec_MaskedBy Try.f97 = true := by kernel_rfl
theorem msspec_IsBadDial : mFn Try.prog fid sspec_IsBadDial_t sspec_IsBadDial Try.f82 = true := by kernel_rfl
theorem msspec_l37Bad : mFn Try.prog fid sspec_l37Bad_t sspec_l37Bad Try.f54 = true := by kernel_rfl
theorem msspec_l4Put : mFn Try.prog fid sspec_l4Put_t sspec_l4Put Try.f31 = true := by kernel_rfl
theorem msspec_HurtEnds : mFn Try.prog fid sspec_HurtEnds_t sspec_HurtEnds Try.f14 = true := by kernel_rfl
theorem msspec_l1In : mFn Try.prog fid sspec_l1In_t sspec_l1In Try.f66 = true := by kernel_rfl
theorem msspec_IsRollout : mFn Try.prog fid sspec_IsRollout_t sspec_IsRollout Try.f29 = true := by kernel_rfl
theorem msspec_CeilDiv : mFn Try.prog fid sspec_CeilDiv_t sspec_CeilDiv Try.f88 = true := by kernel_rfl
theorem msspec_CountIn : mFn Try.prog fid sspec_CountIn_t sspec_CountIn Try.f67 = true := by kernel_rfl
theorem msspec_Max : mFn Try.prog fid sspec_Max_t sspec_Max Try.f32 = true := by kernel_rfl
theorem msspec_MostHurt : mFn Try.prog fid sspec_MostHurt_t sspec_MostHurt Try.f59 = true := by kernel_rfl
theorem msspec_IsBounded : mFn Try.prog fid sspec_IsBounded_t sspec_IsBounded Try.f21 = true := by kernel_rfl
theorem msslices_Index___int_int_ : mFn Try.prog fid sslices_Index___int_int__t sslices_Index___int_int_ Try.f123 = true := by kernel_rfl
theorem msslices_Contains___int_int_ : mFn Try.prog fid sslices_Contains___int_int__t sslices_Contains___int_int_ Try.f115 = true := by kernel_rfl
theorem msimpl_isBad : mFn Try.prog fid simpl_isBad_t simpl_isBad Try.f98 = true := by kernel_rfl
theorem msimpl_IsBadDial : mFn Try.prog fid simpl_IsBadDial_t simpl_IsBadDial Try.f83 = true := by kernel_rfl
theorem msimpl_isHurt : mFn Try.prog fid simpl_isHurt_t simpl_isHurt Try.f55 = true := by kernel_rfl
theorem msimplV_HurtEnds : mFn Try.prog fid simplV_HurtEnds_t simplV_HurtEnds Try.f15 = true := by kernel_rfl
theorem msimpl_InRange : mFn Try.prog fid simpl_InRange_t simpl_InRange Try.f74 = true := by kernel_rfl
theorem msimpl_IsRollout : mFn Try.prog fid simpl_IsRollout_t simpl_IsRollout Try.f39 = true := by kernel_rfl
theorem msimpl_CeilDiv : mFn Try.prog fid simpl_CeilDiv_t simpl_CeilDiv Try.f92 = true := by kernel_rfl
theorem msimpl_CountIn : mFn Try.prog fid simpl_CountIn_t simpl_CountIn Try.f75 = true := by kernel_rfl
theorem msimpl_MostHurt : mFn Try.prog fid simpl_MostHurt_t simpl_MostHurt Try.f60 = true := by kernel_rfl
theorem msimpl_IsBounded : mFn Try.prog fid simpl_IsBounded_t simpl_IsBounded Try.f22 = true := by kernel_rfl
theorem mslaws_szIntS : mFn Try.prog fid slaws_szIntS_t slaws_szIntS Try.f23 = true := by kernel_rfl
theorem mslaws_szBox : mFn Try.prog fid slaws_szBox_t slaws_szBox Try.f110 = true := by kernel_rfl
theorem mslaws_szBoxS : mFn Try.prog fid slaws_szBoxS_t slaws_szBoxS Try.f86 = true := by kernel_rfl
theorem mslaws_szEndpoint : mFn Try.prog fid slaws_szEndpoint_t slaws_szEndpoint Try.f61 = true := by kernel_rfl
theorem mslaws_szEndpointS : mFn Try.prog fid slaws_szEndpointS_t slaws_szEndpointS Try.f24 = true := by kernel_rfl
theorem mslaws_szRollout : mFn Try.prog fid slaws_szRollout_t slaws_szRollout Try.f25 = true := by kernel_rfl
theorem mslaws_szDeal : mFn Try.prog fid slaws_szDeal_t slaws_szDeal Try.f87 = true := by kernel_rfl
theorem mslaws_szDialed : mFn Try.prog fid slaws_szDialed_t slaws_szDialed Try.f62 = true := by kernel_rfl
theorem mslaws_szDialedS : mFn Try.prog fid slaws_szDialedS_t slaws_szDialedS Try.f26 = true := by kernel_rfl
theorem mslaws_szLogged : mFn Try.prog fid slaws_szLogged_t slaws_szLogged Try.f63 = true := by kernel_rfl
theorem mslaws_szLoggedS : mFn Try.prog fid slaws_szLoggedS_t slaws_szLoggedS Try.f27 = true := by kernel_rfl
theorem mslaws_szWorld : mFn Try.prog fid slaws_szWorld_t slaws_szWorld Try.f7 = true := by kernel_rfl
theorem mslaws_toIntS : mFn Try.prog fid slaws_toIntS_t slaws_toIntS Try.f33 = true := by kernel_rfl
theorem mslaws_toBox : mFn Try.prog fid slaws_toBox_t slaws_toBox Try.f111 = true := by kernel_rfl
theorem mslaws_toBoxS : mFn Try.prog fid slaws_toBoxS_t slaws_toBoxS Try.f89 = true := by kernel_rfl
theorem mslaws_toEndpoint : mFn Try.prog fid slaws_toEndpoint_t slaws_toEndpoint Try.f68 = true := by kernel_rfl
theorem mslaws_toEndpointS : mFn Try.prog fid slaws_toEndpointS_t slaws_toEndpointS Try.f34 = true := by kernel_rfl
theorem mslaws_toRollout : mFn Try.prog fid slaws_toRollout_t slaws_toRollout Try.f35 = true := by kernel_rfl
theorem mslaws_toDeal : mFn Try.prog fid slaws_toDeal_t slaws_toDeal Try.f90 = true := by kernel_rfl
theorem mslaws_toDialed : mFn Try.prog fid slaws_toDialed_t slaws_toDialed Try.f69 = true := by kernel_rfl
theorem mslaws_toDialedS : mFn Try.prog fid slaws_toDialedS_t slaws_toDialedS Try.f36 = true := by kernel_rfl
theorem mslaws_toLogged : mFn Try.prog fid slaws_toLogged_t slaws_toLogged Try.f70 = true := by kernel_rfl
theorem mslaws_toLoggedS : mFn Try.prog fid slaws_toLoggedS_t slaws_toLoggedS Try.f37 = true := by kernel_rfl
theorem mslaws_toWorld : mFn Try.prog fid slaws_toWorld_t slaws_toWorld Try.f9 = true := by kernel_rfl
theorem mslaws_eqIntS : mFn Try.prog fid slaws_eqIntS_t slaws_eqIntS Try.f16 = true := by kernel_rfl
theorem mslaws_eqBox : mFn Try.prog fid slaws_eqBox_t slaws_eqBox Try.f113 = true := by kernel_rfl
theorem mslaws_eqBoxS : mFn Try.prog fid slaws_eqBoxS_t slaws_eqBoxS Try.f95 = true := by kernel_rfl
theorem mslaws_eqEndpoint : mFn Try.prog fid slaws_eqEndpoint_t slaws_eqEndpoint Try.f77 = true := by kernel_rfl
theorem mslaws_eqEndpointS : mFn Try.prog fid slaws_eqEndpointS_t slaws_eqEndpointS Try.f42 = true := by kernel_rfl
theorem mslaws_eqRollout : mFn Try.prog fid slaws_eqRollout_t slaws_eqRollout Try.f43 = true := by kernel_rfl
theorem mslaws_eqDeal : mFn Try.prog fid slaws_eqDeal_t slaws_eqDeal Try.f96 = true := by kernel_rfl
theorem mslaws_eqDialed : mFn Try.prog fid slaws_eqDialed_t slaws_eqDialed Try.f78 = true := by kernel_rfl
theorem mslaws_eqDialedS : mFn Try.prog fid slaws_eqDialedS_t slaws_eqDialedS Try.f44 = true := by kernel_rfl
theorem mslaws_eqLogged : mFn Try.prog fid slaws_eqLogged_t slaws_eqLogged Try.f79 = true := by kernel_rfl
theorem mslaws_eqLoggedS : mFn Try.prog fid slaws_eqLoggedS_t slaws_eqLoggedS Try.f45 = true := by kernel_rfl
theorem mslaws_eqWorld : mFn Try.prog fid slaws_eqWorld_t slaws_eqWorld Try.f11 = true := by kernel_rfl
theorem mslaws_FnExactIsBounded : mFn Try.prog fid slaws_FnExactIsBounded_t slaws_FnExactIsBounded Try.f6 = true := by kernel_rfl
theorem dcpRolloutS_66 : cpRolloutS (DD 66) := by unfold cpRolloutS; intros; refine lk (g := 66) rfl Try.func58 msspec_l26Copy ?_; apply l26Copy_b _  <;> assumption
theorem dHasS_166 : HasS (DD 166) := by unfold HasS; intros; refine lk (g := 166) rfl Try.func114 msspec_l9Has ?_; apply l9Has_b _  <;> assumption
theorem dMaskedByS_155 : MaskedByS (DD 155) := by unfold MaskedByS; intros; refine lk (g := 155) rfl Try.func97 msspec_MaskedBy ?_; apply sMaskedBy_b _ dHasS_166 <;> assumption
theorem dIsBadDialS_144 : IsBadDialS (DD 144) := by unfold IsBadDialS; intros; refine lk (g := 144) rfl Try.func82 msspec_IsBadDial ?_; apply sIsBadDial_b _ dMaskedByS_155 <;> assumption
theorem dHurtS_158 : HurtS (DD 158) := by unfold HurtS; intros; refine lk (g := 158) rfl Try.func54 msspec_l37Bad ?_; apply l37Bad_b _ dIsBadDialS_144 <;> assumption
theorem dl4PutS_159 : l4PutS (DD 159) := by unfold l4PutS; intros; refine lk (g := 159) rfl Try.func31 msspec_l4Put ?_; apply l4Put_b _  <;> assumption
theorem dHurtEndsS_87 : HurtEndsS (DD 87) := by unfold HurtEndsS; intros; refine lk (g := 87) rfl Try.func14 msspec_HurtEnds ?_; apply sHurtEnds_b _ dHurtS_158 dl4PutS_159 <;> assumption
theorem dInS_71 : InS (DD 71) := by unfold InS; intros; refine lk (g := 71) rfl Try.func66 msspec_l1In ?_; apply l1In_b _  <;> assumption
theorem dIsRolloutS_145 : IsRolloutS (DD 145) := by unfold IsRolloutS; intros; refine lk (g := 145) rfl Try.func29 msspec_IsRollout ?_; apply sIsRollout_b _ dInS_71 <;> assumption
theorem dCeilDivS_284 : CeilDivS (DD 284) := by unfold CeilDivS; intros; refine lk (g := 284) rfl Try.func88 msspec_CeilDiv ?_; apply sCeilDiv_b _ dInS_71 <;> assumption
theorem dCountInS_254 : CountInS (DD 254) := by unfold CountInS; intros; refine lk (g := 254) rfl Try.func67 msspec_CountIn ?_; apply sCountIn_b _ dIsRolloutS_145 dInS_71 dCeilDivS_284 <;> assumption
theorem dMaxIS_215 : MaxIS (DD 215) := by unfold MaxIS; intros; refine lk (g := 215) rfl Try.func32 msspec_Max ?_; apply sMax_b _  <;> assumption
theorem dMostHurtS_219 : MostHurtS (DD 219) := by unfold MostHurtS; intros; refine lk (g := 219) rfl Try.func59 msspec_MostHurt ?_; apply sMostHurt_b _ dIsRolloutS_145 dInS_71 dcpRolloutS_66 dCountInS_254 dMaxIS_215 <;> assumption
theorem dIsBoundedS_161 : IsBoundedS (DD 161) := by unfold IsBoundedS; intros; refine lk (g := 161) rfl Try.func21 msspec_IsBounded ?_; apply sIsBounded_b _ dcpRolloutS_66 dHurtEndsS_87 dMostHurtS_219 <;> assumption
theorem dIndexS_389 : IndexS (DD 389) := by unfold IndexS; intros; refine lk (g := 389) rfl Try.func123 msslices_Index___int_int_ ?_; apply Index_b _  <;> assumption
theorem dHasS_188 : HasS (DD 188) := by unfold HasS; intros; refine lk (g := 188) rfl Try.func115 msslices_Contains___int_int_ ?_; apply Contains_b _ dIndexS_389 <;> assumption
theorem dIsBadDialS_229 : IsBadDialS (DD 229) := by unfold IsBadDialS; intros; refine lk (g := 229) rfl Try.func98 msimpl_isBad ?_; apply isBad_b _ dHasS_188 <;> assumption
theorem dIsBadDialS_175 : IsBadDialS (DD 175) := by unfold IsBadDialS; intros; refine lk (g := 175) rfl Try.func83 msimpl_IsBadDial ?_; apply iIsBadDial_b _ dIsBadDialS_229 <;> assumption
theorem dHurtS_196 : HurtS (DD 196) := by unfold HurtS; intros; refine lk (g := 196) rfl Try.func55 msimpl_isHurt ?_; apply isHurt_b _ dIsBadDialS_175 <;> assumption
theorem dSortS_197 : SortS (DD 197) := sort_prom (k := 56) rfl (fun p c w => Try.slices_Sort_int_none p c w) (fun b o c zs w h1 h2 h3 => Try.slices_Sort_int b o c zs w h1 h2 h3)
theorem dCompactS_198 : CompactS (DD 198) := compact_prom (k := 57) rfl (fun p c w => Try.slices_Compact_int_empty p c w) (fun b o c zs w h1 h2 h3 => Try.slices_Compact_int b o c zs w h1 h2 h3)
theorem dHurtEndsS_131 : HurtEndsS (DD 131) := by unfold HurtEndsS; intros; refine lk (g := 131) rfl Try.func15 msimplV_HurtEnds ?_; apply iHurtEnds_b _ dHurtS_196 dSortS_197 dCompactS_198 <;> assumption
theorem dInS_114 : InS (DD 114) := by unfold InS; intros; refine lk (g := 114) rfl Try.func74 msimpl_InRange ?_; apply InRange_b _  <;> assumption
theorem dIsRolloutS_176 : IsRolloutS (DD 176) := by unfold IsRolloutS; intros; refine lk (g := 176) rfl Try.func39 msimpl_IsRollout ?_; apply iIsRollout_b _ dInS_114 <;> assumption
theorem dCeilDivS_291 : CeilDivS (DD 291) := by unfold CeilDivS; intros; refine lk (g := 291) rfl Try.func92 msimpl_CeilDiv ?_; apply iCeilDiv_b _ dInS_114 <;> assumption
theorem dCountInS_263 : CountInS (DD 263) := by unfold CountInS; intros; refine lk (g := 263) rfl Try.func75 msimpl_CountIn ?_; apply iCountIn_b _ dIsRolloutS_176 dInS_114 dCeilDivS_291 <;> assumption
theorem dMostHurtS_245 : MostHurtS (DD 245) := by unfold MostHurtS; intros; refine lk (g := 245) rfl Try.func60 msimpl_MostHurt ?_; apply iMostHurt_b _ dIsRolloutS_176 dInS_114 dCountInS_263 <;> assumption
theorem dIsBoundedS_200 : IsBoundedS (DD 200) := by unfold IsBoundedS; intros; refine lk (g := 200) rfl Try.func22 msimpl_IsBounded ?_; apply iIsBounded_b _ dHurtEndsS_131 dMostHurtS_245 <;> assumption
theorem dszIntSS_16 : szIntSS (DD 16) := by unfold szIntSS; intros; refine lk (g := 16) rfl Try.func23 mslaws_szIntS ?_; apply szIntS_b _  <;> assumption
theorem dszBoxS_206 : szBoxS (DD 206) := by unfold szBoxS; intros; refine lk (g := 206) rfl Try.func110 mslaws_szBox ?_; apply szBox_b _ dszIntSS_16 <;> assumption
theorem dszBoxSS_139 : szBoxSS (DD 139) := by unfold szBoxSS; intros; refine lk (g := 139) rfl Try.func86 mslaws_szBoxS ?_; apply szBoxS_b _ dszBoxS_206 <;> assumption
theorem dszEndpointS_62 : szEndpointS (DD 62) := by unfold szEndpointS; intros; refine lk (g := 62) rfl Try.func61 mslaws_szEndpoint ?_; apply szEndpoint_b _ dszIntSS_16 dszBoxSS_139 <;> assumption
theorem dszEndpointSS_17 : szEndpointSS (DD 17) := by unfold szEndpointSS; intros; refine lk (g := 17) rfl Try.func24 mslaws_szEndpointS ?_; apply szEndpointS_b _ dszEndpointS_62 <;> assumption
theorem dszRolloutS_18 : szRolloutS (DD 18) := by unfold szRolloutS; intros; refine lk (g := 18) rfl Try.func25 mslaws_szRollout ?_; apply szRollout_b _ dszIntSS_16 <;> assumption
theorem dszDealS_140 : szDealS (DD 140) := by unfold szDealS; intros; refine lk (g := 140) rfl Try.func87 mslaws_szDeal ?_; apply szDeal_b _ dszIntSS_16 <;> assumption
theorem dszDialedS_63 : szDialedS (DD 63) := by unfold szDialedS; intros; refine lk (g := 63) rfl Try.func62 mslaws_szDialed ?_; apply szDialed_b _ dszDealS_140 dszIntSS_16 <;> assumption
theorem dszDialedSS_19 : szDialedSS (DD 19) := by unfold szDialedSS; intros; refine lk (g := 19) rfl Try.func26 mslaws_szDialedS ?_; apply szDialedS_b _ dszDialedS_63 <;> assumption
theorem dszLoggedS_64 : szLoggedS (DD 64) := by unfold szLoggedS; intros; refine lk (g := 64) rfl Try.func63 mslaws_szLogged ?_; apply szLogged_b _ dszDialedS_63 <;> assumption
theorem dszLoggedSS_20 : szLoggedSS (DD 20) := by unfold szLoggedSS; intros; refine lk (g := 20) rfl Try.func27 mslaws_szLoggedS ?_; apply szLoggedS_b _ dszLoggedS_64 <;> assumption
theorem dszWorldS_7 : szWorldS (DD 7) := by unfold szWorldS; intros; refine lk (g := 7) rfl Try.func7 mslaws_szWorld ?_; apply szWorld_b _ dszIntSS_16 dszEndpointSS_17 dszRolloutS_18 dszDialedSS_19 dszLoggedSS_20 <;> assumption
theorem dtoIntSS_31 : toIntSS (DD 31) := by unfold toIntSS; intros; refine lk (g := 31) rfl Try.func33 mslaws_toIntS ?_; apply toIntS_b _  <;> assumption
theorem dtoBoxS_226 : toBoxS (DD 226) := by unfold toBoxS; intros; refine lk (g := 226) rfl Try.func111 mslaws_toBox ?_; apply toBox_b _ dtoIntSS_31 <;> assumption
theorem dtoBoxSS_170 : toBoxSS (DD 170) := by unfold toBoxSS; intros; refine lk (g := 170) rfl Try.func89 mslaws_toBoxS ?_; apply toBoxS_b _ dtoBoxS_226 <;> assumption
theorem dtoEndpointS_98 : toEndpointS (DD 98) := by unfold toEndpointS; intros; refine lk (g := 98) rfl Try.func68 mslaws_toEndpoint ?_; apply toEndpoint_b _ dtoIntSS_31 dtoBoxSS_170 <;> assumption
theorem dtoEndpointSS_32 : toEndpointSS (DD 32) := by unfold toEndpointSS; intros; refine lk (g := 32) rfl Try.func34 mslaws_toEndpointS ?_; apply toEndpointS_b _ dtoEndpointS_98 <;> assumption
theorem dtoRolloutS_33 : toRolloutS (DD 33) := by unfold toRolloutS; intros; refine lk (g := 33) rfl Try.func35 mslaws_toRollout ?_; apply toRollout_b _ dtoIntSS_31 <;> assumption
theorem dtoDealS_171 : toDealS (DD 171) := by unfold toDealS; intros; refine lk (g := 171) rfl Try.func90 mslaws_toDeal ?_; apply toDeal_b _ dtoIntSS_31 <;> assumption
theorem dtoDialedS_99 : toDialedS (DD 99) := by unfold toDialedS; intros; refine lk (g := 99) rfl Try.func69 mslaws_toDialed ?_; apply toDialed_b _ dtoDealS_171 dtoIntSS_31 <;> assumption
theorem dtoDialedSS_34 : toDialedSS (DD 34) := by unfold toDialedSS; intros; refine lk (g := 34) rfl Try.func36 mslaws_toDialedS ?_; apply toDialedS_b _ dtoDialedS_99 <;> assumption
theorem dtoLoggedS_100 : toLoggedS (DD 100) := by unfold toLoggedS; intros; refine lk (g := 100) rfl Try.func70 mslaws_toLogged ?_; apply toLogged_b _ dtoDialedS_99 <;> assumption
theorem dtoLoggedSS_35 : toLoggedSS (DD 35) := by unfold toLoggedSS; intros; refine lk (g := 35) rfl Try.func37 mslaws_toLoggedS ?_; apply toLoggedS_b _ dtoLoggedS_100 <;> assumption
theorem dtoWorldS_8 : toWorldS (DD 8) := by unfold toWorldS; intros; refine lk (g := 8) rfl Try.func9 mslaws_toWorld ?_; apply toWorld_b _ dtoIntSS_31 dtoEndpointSS_32 dtoRolloutS_33 dtoDialedSS_34 dtoLoggedSS_35 <;> assumption
theorem deqIntSS_47 : eqIntSS (DD 47) := by unfold eqIntSS; intros; refine lk (g := 47) rfl Try.func16 mslaws_eqIntS ?_; apply eqIntS_b _  <;> assumption
theorem deqBoxS_249 : eqBoxS (DD 249) := by unfold eqBoxS; intros; refine lk (g := 249) rfl Try.func113 mslaws_eqBox ?_; apply eqBox_b _ deqIntSS_47 <;> assumption
theorem deqBoxSS_204 : eqBoxSS (DD 204) := by unfold eqBoxSS; intros; refine lk (g := 204) rfl Try.func95 mslaws_eqBoxS ?_; apply eqBoxS_b _ deqBoxS_249 <;> assumption
theorem deqEndpointS_134 : eqEndpointS (DD 134) := by unfold eqEndpointS; intros; refine lk (g := 134) rfl Try.func77 mslaws_eqEndpoint ?_; apply eqEndpoint_b _ deqIntSS_47 deqBoxSS_204 <;> assumption
theorem deqEndpointSS_48 : eqEndpointSS (DD 48) := by unfold eqEndpointSS; intros; refine lk (g := 48) rfl Try.func42 mslaws_eqEndpointS ?_; apply eqEndpointS_b _ deqEndpointS_134 <;> assumption
theorem deqRolloutS_49 : eqRolloutS (DD 49) := by unfold eqRolloutS; intros; refine lk (g := 49) rfl Try.func43 mslaws_eqRollout ?_; apply eqRollout_b _ deqIntSS_47 <;> assumption
theorem deqDealS_205 : eqDealS (DD 205) := by unfold eqDealS; intros; refine lk (g := 205) rfl Try.func96 mslaws_eqDeal ?_; apply eqDeal_b _ deqIntSS_47 <;> assumption
theorem deqDialedS_135 : eqDialedS (DD 135) := by unfold eqDialedS; intros; refine lk (g := 135) rfl Try.func78 mslaws_eqDialed ?_; apply eqDialed_b _ deqDealS_205 deqIntSS_47 <;> assumption
theorem deqDialedSS_50 : eqDialedSS (DD 50) := by unfold eqDialedSS; intros; refine lk (g := 50) rfl Try.func44 mslaws_eqDialedS ?_; apply eqDialedS_b _ deqDialedS_135 <;> assumption
theorem deqLoggedS_136 : eqLoggedS (DD 136) := by unfold eqLoggedS; intros; refine lk (g := 136) rfl Try.func79 mslaws_eqLogged ?_; apply eqLogged_b _ deqDialedS_135 <;> assumption
theorem deqLoggedSS_51 : eqLoggedSS (DD 51) := by unfold eqLoggedSS; intros; refine lk (g := 51) rfl Try.func45 mslaws_eqLoggedS ?_; apply eqLoggedS_b _ deqLoggedS_136 <;> assumption
theorem deqWorldS_11 : eqWorldS (DD 11) := by unfold eqWorldS; intros; refine lk (g := 11) rfl Try.func11 mslaws_eqWorld ?_; apply eqWorld_b _ deqIntSS_47 deqEndpointSS_48 deqRolloutS_49 deqDialedSS_50 deqLoggedSS_51 <;> assumption
theorem dFnExactIsBoundedS_457 : FnExactIsBoundedS (DD 457) := by unfold FnExactIsBoundedS; intros; refine lk (g := 457) rfl Try.func6 mslaws_FnExactIsBounded ?_; apply FnExactIsBounded_b _ dIsBoundedS_161 dIsBoundedS_200 dszWorldS_7 dtoWorldS_8 deqWorldS_11 <;> assumption
theorem den (av : List V) (h : ArgsV [tyWorld] av) : DD 457 av [] (B true) [] := by
  obtain ⟨v0, r0, h0, hr0, rfl⟩ := h
  obtain ⟨x0, rfl, l0, w0⟩ := argWorld h0
  have z : r0 = [] := hr0
  subst z
  apply dFnExactIsBoundedS_457 <;> assumption
end Go.Eng.T

