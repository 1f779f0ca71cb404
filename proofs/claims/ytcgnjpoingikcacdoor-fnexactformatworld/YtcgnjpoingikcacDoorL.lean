/- Own work: part 45 of the proof of FnExactFormatWorld. -/
import Derived.Test.YtcgnjpoingikcacDoorP44
import Derived.Test.YtcgnjpoingikcacDoorProg
import Derived.KernelRfl
namespace Go.Eng.T
open Go.Proofs Go.Lib
def fidL : List (Option Nat) := [none, none, none, none, none, none, none, some 4, some 6, none, none, some 8, none, none, none, none, some 9, some 10, some 11, some 12, some 13, none, none, none, none, none, none, none, none, none, none, some 17, some 18, some 19, some 20, some 21, none, none, none, none, none, none, none, none, none, none, none, some 25, some 26, some 27, some 28, some 29, none, none, none, none, none, none, none, none, none, none, some 30, some 31, some 32, none, none, none, none, none, none, none, none, none, none, none, none, none, none, none, none, none, none, none, none, none, none, none, some 5, none, none, none, none, some 14, none, none, none, none, some 33, some 34, some 35, none, none, none, none, none, none, none, none, none, none, none, none, none, none, none, none, none, none, none, some 22, none, none, none, none, none, none, none, none, none, none, none, some 7, none, some 38, some 39, some 40, none, none, some 41, some 42, none, none, none, none, none, none, none, none, none, none, none, none, none, some 15, none, none, none, none, none, some 16, none, none, none, none, none, none, none, none, none, some 43, some 44, none, none, none, none, none, none, none, none, none, none, none, none, none, some 36, none, some 23, none, none, none, none, none, none, none, none, none, none, none, some 24, none, none, none, none, some 49, some 50, some 51, none, none, none, none, none, none, none, none, none, none, none, none, none, none, none, none, none, none, none, some 52, none, none, none, none, none, none, none, none, none, none, none, none, none, none, some 37, none, none, none, none, none, none, none, some 56, none, none, none, none, none, none, none, none, none, none, none, none, none, none, none, none, none, none, none, none, none, none, none, none, none, none, none, none, none, none, none, none, none, none, none, none, none, none, none, none, none, none, none, none, none, none, none, none, none, none, none, none, none, none, none, none, none, none, none, none, none, none, none, none, none, none, none, none, none, none, none, none, none, none, none, none, none, none, none, none, none, none, none, none, none, none, none, none, none, none, none, none, none, none, none, none, none, none, none, none, none, none, none, none, none, none, none, none, none, none, none, none, none, none, none, none, none, none, none, none, none, none, none, none, none, none, none, none, none, none, none, none, none, none, none, none, none, none, none, none, none, none, none, none, none, none, none, none, none, none, none, none, none, none, none, none, none, none, none, none, none, none, none, none, none, none, none, none, none, none, none, none, none, none, none, none, none, none, none, none, none, none, none, none, none, none, none, none, none, none, none, none, none, none, none, none, none, none, none, none, none, some 3, none, none, none, none, none, none]
def fid : Nat → Option FuncId := fun g => fidL.getD g none
theorem hmix : Tryd.prog.follows .mixedOrders = true := by kernel_rfl
theorem hFl : fidL.all (fun o => match o with | some f => okF Tryd.prog f | none => true) = true := by kernel_rfl
theorem hF : ∀ g f, fid g = some f → okF Tryd.prog f = true := by
  intro g f h
  have := List.all_eq_true.1 hFl (some f) (by
    unfold fid at h
    rw [List.getD_eq_getElem?_getD] at h
    cases hg : fidL[g]? with
    | none => simp [hg] at h
    | some o => simp [hg] at h; subst h; exact List.mem_of_getElem? hg)
  exact this
theorem gTab : Tryd.prog.globalNamed "internal/strconv.uint64pow10" = some 0 := by kernel_rfl
theorem gTabType : (Tryd.prog.globals[0]?).map (·.type) = some 122 := by kernel_rfl
theorem cellsT : Tryd.prog.cellsOf 122 = 20 := by kernel_rfl
theorem cellsE : Tryd.prog.cellsOf 112 = 1 := by kernel_rfl
abbrev Tb (W : Go.World) : Prop := TabIs Tryd.prog W "internal/strconv.uint64pow10" .u64 pow10Tab
abbrev GW (W : Go.World) : Gl := ⟨fun b => b = 0, fun b => W.heap[b]?⟩
theorem gw {W : Go.World} (ht : Tb W) : ∀ b, (GW W) b → b < W.heap.size ∧ W.heap[b]? = (GW W).is b := by
  intro b hb
  have hb' : b = 0 := hb
  exact ⟨by rw [hb']; exact tab_size gTab ht, rfl⟩
abbrev DD (W : Go.World) : Dn := Den Tryd.prog fid (GW W)
theorem lk {W : Go.World} {g : Nat} {f : FuncId} {fn : Func} {st : List Tmp} {sf : SFn} (hg : fid g = some f) (hfn : Tryd.prog.funcs[f]? = some fn) (hm : mFn Tryd.prog fid st sf fn = true) {a : List V} {gi : List O} {r : V} {o : List O}
    (h : Body (DD W) sf a gi r o) : DD W g a gi r o :=
  fn_sound hmix (fun _ _ _ _ _ h => h) hF (fun id hid => by rw [hg] at hid; cases hid; exact hfn) hm h
theorem msspec_FormatInt : mFn Tryd.prog fid sspec_FormatInt_t sspec_FormatInt Tryd.f14 = true := by kernel_rfl
theorem msspec_l39Join : mFn Tryd.prog fid sspec_l39Join_t sspec_l39Join Tryd.f15 = true := by kernel_rfl
theorem msspec_FormatRollout : mFn Tryd.prog fid sspec_FormatRollout_t sspec_FormatRollout Tryd.f16 = true := by kernel_rfl
theorem msspec_FormatWorld : mFn Tryd.prog fid sspec_FormatWorld_t sspec_FormatWorld Tryd.f5 = true := by kernel_rfl
theorem msimpl_FormatInt : mFn Tryd.prog fid simpl_FormatInt_t simpl_FormatInt Tryd.f22 = true := by kernel_rfl
theorem msimpl_joined : mFn Tryd.prog fid simpl_joined_t simpl_joined Tryd.f23 = true := by kernel_rfl
theorem msimpl_FormatRollout : mFn Tryd.prog fid simpl_FormatRollout_t simpl_FormatRollout Tryd.f24 = true := by kernel_rfl
theorem msimpl_FormatWorld : mFn Tryd.prog fid simpl_FormatWorld_t simpl_FormatWorld Tryd.f7 = true := by kernel_rfl
theorem mslaws_szIntS : mFn Tryd.prog fid slaws_szIntS_t slaws_szIntS Tryd.f9 = true := by kernel_rfl
theorem mslaws_szBox : mFn Tryd.prog fid slaws_szBox_t slaws_szBox Tryd.f51 = true := by kernel_rfl
theorem mslaws_szBoxS : mFn Tryd.prog fid slaws_szBoxS_t slaws_szBoxS Tryd.f41 = true := by kernel_rfl
theorem mslaws_szEndpoint : mFn Tryd.prog fid slaws_szEndpoint_t slaws_szEndpoint Tryd.f30 = true := by kernel_rfl
theorem mslaws_szEndpointS : mFn Tryd.prog fid slaws_szEndpointS_t slaws_szEndpointS Tryd.f10 = true := by kernel_rfl
theorem mslaws_szRollout : mFn Tryd.prog fid slaws_szRollout_t slaws_szRollout Tryd.f11 = true := by kernel_rfl
theorem mslaws_szDeal : mFn Tryd.prog fid slaws_szDeal_t slaws_szDeal Tryd.f42 = true := by kernel_rfl
theorem mslaws_szDialed : mFn Tryd.prog fid slaws_szDialed_t slaws_szDialed Tryd.f31 = true := by kernel_rfl
theorem mslaws_szDialedS : mFn Tryd.prog fid slaws_szDialedS_t slaws_szDialedS Tryd.f12 = true := by kernel_rfl
theorem mslaws_szLogged : mFn Tryd.prog fid slaws_szLogged_t slaws_szLogged Tryd.f32 = true := by kernel_rfl
theorem mslaws_szLoggedS : mFn Tryd.prog fid slaws_szLoggedS_t slaws_szLoggedS Tryd.f13 = true := by kernel_rfl
theorem mslaws_szWorld : mFn Tryd.prog fid slaws_szWorld_t slaws_szWorld Tryd.f4 = true := by kernel_rfl
theorem mslaws_toIntS : mFn Tryd.prog fid slaws_toIntS_t slaws_toIntS Tryd.f17 = true := by kernel_rfl
theorem mslaws_toBox : mFn Tryd.prog fid slaws_toBox_t slaws_toBox Tryd.f52 = true := by kernel_rfl
theorem mslaws_toBoxS : mFn Tryd.prog fid slaws_toBoxS_t slaws_toBoxS Tryd.f43 = true := by kernel_rfl
theorem mslaws_toEndpoint : mFn Tryd.prog fid slaws_toEndpoint_t slaws_toEndpoint Tryd.f33 = true := by kernel_rfl
theorem mslaws_toEndpointS : mFn Tryd.prog fid slaws_toEndpointS_t slaws_toEndpointS Tryd.f18 = true := by kernel_rfl
theorem mslaws_toRollout : mFn Tryd.prog fid slaws_toRollout_t slaws_toRollout Tryd.f19 = true := by kernel_rfl
theorem mslaws_toDeal : mFn Tryd.prog fid slaws_toDeal_t slaws_toDeal Tryd.f44 = true := by kernel_rfl
theorem mslaws_toDialed : mFn Tryd.prog fid slaws_toDialed_t slaws_toDialed Tryd.f34 = true := by kernel_rfl
theorem mslaws_toDialedS : mFn Tryd.prog fid slaws_toDialedS_t slaws_toDialedS Tryd.f20 = true := by kernel_rfl
theorem mslaws_toLogged : mFn Tryd.prog fid slaws_toLogged_t slaws_toLogged Tryd.f35 = true := by kernel_rfl
theorem mslaws_toLoggedS : mFn Tryd.prog fid slaws_toLoggedS_t slaws_toLoggedS Tryd.f21 = true := by kernel_rfl
theorem mslaws_toWorld : mFn Tryd.prog fid slaws_toWorld_t slaws_toWorld Tryd.f6 = true := by kernel_rfl
theorem mslaws_eqIntS : mFn Tryd.prog fid slaws_eqIntS_t slaws_eqIntS Tryd.f25 = true := by kernel_rfl
theorem mslaws_eqBox : mFn Tryd.prog fid slaws_eqBox_t slaws_eqBox Tryd.f56 = true := by kernel_rfl
theorem mslaws_eqBoxS : mFn Tryd.prog fid slaws_eqBoxS_t slaws_eqBoxS Tryd.f49 = true := by kernel_rfl
theorem mslaws_eqEndpoint : mFn Tryd.prog fid slaws_eqEndpoint_t slaws_eqEndpoint Tryd.f38 = true := by kernel_rfl
theorem mslaws_eqEndpointS : mFn Tryd.prog fid slaws_eqEndpointS_t slaws_eqEndpointS Tryd.f26 = true := by kernel_rfl
theorem mslaws_eqRollout : mFn Tryd.prog fid slaws_eqRollout_t slaws_eqRollout Tryd.f27 = true := by kernel_rfl
theorem mslaws_eqDeal : mFn Tryd.prog fid slaws_eqDeal_t slaws_eqDeal Tryd.f50 = true := by kernel_rfl
theorem mslaws_eqDialed : mFn Tryd.prog fid slaws_eqDialed_t slaws_eqDialed Tryd.f39 = true := by kernel_rfl
theorem mslaws_eqDialedS : mFn Tryd.prog fid slaws_eqDialedS_t slaws_eqDialedS Tryd.f28 = true := by kernel_rfl
theorem mslaws_eqLogged : mFn Tryd.prog fid slaws_eqLogged_t slaws_eqLogged Tryd.f40 = true := by kernel_rfl
theorem mslaws_eqLoggedS : mFn Tryd.prog fid slaws_eqLoggedS_t slaws_eqLoggedS Tryd.f29 = true := by kernel_rfl
theorem mslaws_eqWorld : mFn Tryd.prog fid slaws_eqWorld_t slaws_eqWorld Tryd.f8 = true := by kernel_rfl
theorem mslaws_FnExactFormatWorld : mFn Tryd.prog fid slaws_FnExactFormatWorld_t slaws_FnExactFormatWorld Tryd.f3 = true := by kernel_rfl
theorem dFormatIntS_93 (W : Go.World) (ht : Tb W) : FormatIntS (DD W 93) := by unfold FormatIntS; intros; refine lk (g := 93) rfl Tryd.func14 msspec_FormatInt ?_; apply sFormatInt_b _  <;> assumption
theorem djoinedS_154 (W : Go.World) (ht : Tb W) : joinedS (DD W 154) := by unfold joinedS; intros; refine lk (g := 154) rfl Tryd.func15 msspec_l39Join ?_; apply l39Join_b _ (dFormatIntS_93 W ht) <;> assumption
theorem dFormatRolloutS_160 (W : Go.World) (ht : Tb W) : FormatRolloutS (DD W 160) := by unfold FormatRolloutS; intros; refine lk (g := 160) rfl Tryd.func16 msspec_FormatRollout ?_; apply sFormatRollout_b _ (dFormatIntS_93 W ht) (djoinedS_154 W ht) <;> assumption
theorem dFormatWorldS_88 (W : Go.World) (ht : Tb W) : FormatWorldS (DD W 88) := by unfold FormatWorldS; intros; refine lk (g := 88) rfl Tryd.func5 msspec_FormatWorld ?_; apply sFormatWorld_b _ (dFormatIntS_93 W ht) (djoinedS_154 W ht) (dFormatRolloutS_160 W ht) <;> assumption
theorem dFormatIntS_185 (W : Go.World) (ht : Tb W) : FormatIntS (DD W 185) := itoa_den (k := 36) (b := 0) (W := W) rfl gTab rfl rfl ht (fun n h0 h1 w h => Tryd.strconv_Itoa n h0 h1 w h)
theorem dFormatIntS_120 (W : Go.World) (ht : Tb W) : FormatIntS (DD W 120) := by unfold FormatIntS; intros; refine lk (g := 120) rfl Tryd.func22 msimpl_FormatInt ?_; apply iFormatInt_b _ (dFormatIntS_185 W ht) <;> assumption
theorem dJoinS_241 (W : Go.World) (ht : Tb W) : JoinS (DD W 241) := join_den (k := 37) rfl (fun a c sep w => Tryd.strings_Join_none a c sep w) (fun bk o c xs sep w h1 h2 h3 h4 h5 => Tryd.strings_Join bk o c xs sep w h1 h2 h3 h4 h5)
theorem djoinedS_187 (W : Go.World) (ht : Tb W) : joinedS (DD W 187) := by unfold joinedS; intros; refine lk (g := 187) rfl Tryd.func23 msimpl_joined ?_; apply joined_b _ (dFormatIntS_120 W ht) (dJoinS_241 W ht) <;> assumption
theorem dFormatRolloutS_199 (W : Go.World) (ht : Tb W) : FormatRolloutS (DD W 199) := by unfold FormatRolloutS; intros; refine lk (g := 199) rfl Tryd.func24 msimpl_FormatRollout ?_; apply iFormatRollout_b _ (dFormatIntS_120 W ht) (djoinedS_187 W ht) <;> assumption
theorem dFormatWorldS_132 (W : Go.World) (ht : Tb W) : FormatWorldS (DD W 132) := by unfold FormatWorldS; intros; refine lk (g := 132) rfl Tryd.func7 msimpl_FormatWorld ?_; apply iFormatWorld_b _ (dFormatIntS_120 W ht) (djoinedS_187 W ht) (dFormatRolloutS_199 W ht) <;> assumption
theorem dszIntSS_16 (W : Go.World) (ht : Tb W) : szIntSS (DD W 16) := by unfold szIntSS; intros; refine lk (g := 16) rfl Tryd.func9 mslaws_szIntS ?_; apply szIntS_b _  <;> assumption
theorem dszBoxS_206 (W : Go.World) (ht : Tb W) : szBoxS (DD W 206) := by unfold szBoxS; intros; refine lk (g := 206) rfl Tryd.func51 mslaws_szBox ?_; apply szBox_b _ (dszIntSS_16 W ht) <;> assumption
theorem dszBoxSS_139 (W : Go.World) (ht : Tb W) : szBoxSS (DD W 139) := by unfold szBoxSS; intros; refine lk (g := 139) rfl Tryd.func41 mslaws_szBoxS ?_; apply szBoxS_b _ (dszBoxS_206 W ht) <;> assumption
theorem dszEndpointS_62 (W : Go.World) (ht : Tb W) : szEndpointS (DD W 62) := by unfold szEndpointS; intros; refine lk (g := 62) rfl Tryd.func30 mslaws_szEndpoint ?_; apply szEndpoint_b _ (dszIntSS_16 W ht) (dszBoxSS_139 W ht) <;> assumption
theorem dszEndpointSS_17 (W : Go.World) (ht : Tb W) : szEndpointSS (DD W 17) := by unfold szEndpointSS; intros; refine lk (g := 17) rfl Tryd.func10 mslaws_szEndpointS ?_; apply szEndpointS_b _ (dszEndpointS_62 W ht) <;> assumption
theorem dszRolloutS_18 (W : Go.World) (ht : Tb W) : szRolloutS (DD W 18) := by unfold szRolloutS; intros; refine lk (g := 18) rfl Tryd.func11 mslaws_szRollout ?_; apply szRollout_b _ (dszIntSS_16 W ht) <;> assumption
theorem dszDealS_140 (W : Go.World) (ht : Tb W) : szDealS (DD W 140) := by unfold szDealS; intros; refine lk (g := 140) rfl Tryd.func42 mslaws_szDeal ?_; apply szDeal_b _ (dszIntSS_16 W ht) <;> assumption
theorem dszDialedS_63 (W : Go.World) (ht : Tb W) : szDialedS (DD W 63) := by unfold szDialedS; intros; refine lk (g := 63) rfl Tryd.func31 mslaws_szDialed ?_; apply szDialed_b _ (dszDealS_140 W ht) (dszIntSS_16 W ht) <;> assumption
theorem dszDialedSS_19 (W : Go.World) (ht : Tb W) : szDialedSS (DD W 19) := by unfold szDialedSS; intros; refine lk (g := 19) rfl Tryd.func12 mslaws_szDialedS ?_; apply szDialedS_b _ (dszDialedS_63 W ht) <;> assumption
theorem dszLoggedS_64 (W : Go.World) (ht : Tb W) : szLoggedS (DD W 64) := by unfold szLoggedS; intros; refine lk (g := 64) rfl Tryd.func32 mslaws_szLogged ?_; apply szLogged_b _ (dszDialedS_63 W ht) <;> assumption
theorem dszLoggedSS_20 (W : Go.World) (ht : Tb W) : szLoggedSS (DD W 20) := by unfold szLoggedSS; intros; refine lk (g := 20) rfl Tryd.func13 mslaws_szLoggedS ?_; apply szLoggedS_b _ (dszLoggedS_64 W ht) <;> assumption
theorem dszWorldS_7 (W : Go.World) (ht : Tb W) : szWorldS (DD W 7) := by unfold szWorldS; intros; refine lk (g := 7) rfl Tryd.func4 mslaws_szWorld ?_; apply szWorld_b _ (dszIntSS_16 W ht) (dszEndpointSS_17 W ht) (dszRolloutS_18 W ht) (dszDialedSS_19 W ht) (dszLoggedSS_20 W ht) <;> assumption
theorem dtoIntSS_31 (W : Go.World) (ht : Tb W) : toIntSS (DD W 31) := by unfold toIntSS; intros; refine lk (g := 31) rfl Tryd.func17 mslaws_toIntS ?_; apply toIntS_b _  <;> assumption
theorem dtoBoxS_226 (W : Go.World) (ht : Tb W) : toBoxS (DD W 226) := by unfold toBoxS; intros; refine lk (g := 226) rfl Tryd.func52 mslaws_toBox ?_; apply toBox_b _ (dtoIntSS_31 W ht) <;> assumption
theorem dtoBoxSS_170 (W : Go.World) (ht : Tb W) : toBoxSS (DD W 170) := by unfold toBoxSS; intros; refine lk (g := 170) rfl Tryd.func43 mslaws_toBoxS ?_; apply toBoxS_b _ (dtoBoxS_226 W ht) <;> assumption
theorem dtoEndpointS_98 (W : Go.World) (ht : Tb W) : toEndpointS (DD W 98) := by unfold toEndpointS; intros; refine lk (g := 98) rfl Tryd.func33 mslaws_toEndpoint ?_; apply toEndpoint_b _ (dtoIntSS_31 W ht) (dtoBoxSS_170 W ht) <;> assumption
theorem dtoEndpointSS_32 (W : Go.World) (ht : Tb W) : toEndpointSS (DD W 32) := by unfold toEndpointSS; intros; refine lk (g := 32) rfl Tryd.func18 mslaws_toEndpointS ?_; apply toEndpointS_b _ (dtoEndpointS_98 W ht) <;> assumption
theorem dtoRolloutS_33 (W : Go.World) (ht : Tb W) : toRolloutS (DD W 33) := by unfold toRolloutS; intros; refine lk (g := 33) rfl Tryd.func19 mslaws_toRollout ?_; apply toRollout_b _ (dtoIntSS_31 W ht) <;> assumption
theorem dtoDealS_171 (W : Go.World) (ht : Tb W) : toDealS (DD W 171) := by unfold toDealS; intros; refine lk (g := 171) rfl Tryd.func44 mslaws_toDeal ?_; apply toDeal_b _ (dtoIntSS_31 W ht) <;> assumption
theorem dtoDialedS_99 (W : Go.World) (ht : Tb W) : toDialedS (DD W 99) := by unfold toDialedS; intros; refine lk (g := 99) rfl Tryd.func34 mslaws_toDialed ?_; apply toDialed_b _ (dtoDealS_171 W ht) (dtoIntSS_31 W ht) <;> assumption
theorem dtoDialedSS_34 (W : Go.World) (ht : Tb W) : toDialedSS (DD W 34) := by unfold toDialedSS; intros; refine lk (g := 34) rfl Tryd.func20 mslaws_toDialedS ?_; apply toDialedS_b _ (dtoDialedS_99 W ht) <;> assumption
theorem dtoLoggedS_100 (W : Go.World) (ht : Tb W) : toLoggedS (DD W 100) := by unfold toLoggedS; intros; refine lk (g := 100) rfl Tryd.func35 mslaws_toLogged ?_; apply toLogged_b _ (dtoDialedS_99 W ht) <;> assumption
theorem dtoLoggedSS_35 (W : Go.World) (ht : Tb W) : toLoggedSS (DD W 35) := by unfold toLoggedSS; intros; refine lk (g := 35) rfl Tryd.func21 mslaws_toLoggedS ?_; apply toLoggedS_b _ (dtoLoggedS_100 W ht) <;> assumption
theorem dtoWorldS_8 (W : Go.World) (ht : Tb W) : toWorldS (DD W 8) := by unfold toWorldS; intros; refine lk (g := 8) rfl Tryd.func6 mslaws_toWorld ?_; apply toWorld_b _ (dtoIntSS_31 W ht) (dtoEndpointSS_32 W ht) (dtoRolloutS_33 W ht) (dtoDialedSS_34 W ht) (dtoLoggedSS_35 W ht) <;> assumption
theorem deqIntSS_47 (W : Go.World) (ht : Tb W) : eqIntSS (DD W 47) := by unfold eqIntSS; intros; refine lk (g := 47) rfl Tryd.func25 mslaws_eqIntS ?_; apply eqIntS_b _  <;> assumption
theorem deqBoxS_249 (W : Go.World) (ht : Tb W) : eqBoxS (DD W 249) := by unfold eqBoxS; intros; refine lk (g := 249) rfl Tryd.func56 mslaws_eqBox ?_; apply eqBox_b _ (deqIntSS_47 W ht) <;> assumption
theorem deqBoxSS_204 (W : Go.World) (ht : Tb W) : eqBoxSS (DD W 204) := by unfold eqBoxSS; intros; refine lk (g := 204) rfl Tryd.func49 mslaws_eqBoxS ?_; apply eqBoxS_b _ (deqBoxS_249 W ht) <;> assumption
theorem deqEndpointS_134 (W : Go.World) (ht : Tb W) : eqEndpointS (DD W 134) := by unfold eqEndpointS; intros; refine lk (g := 134) rfl Tryd.func38 mslaws_eqEndpoint ?_; apply eqEndpoint_b _ (deqIntSS_47 W ht) (deqBoxSS_204 W ht) <;> assumption
theorem deqEndpointSS_48 (W : Go.World) (ht : Tb W) : eqEndpointSS (DD W 48) := by unfold eqEndpointSS; intros; refine lk (g := 48) rfl Tryd.func26 mslaws_eqEndpointS ?_; apply eqEndpointS_b _ (deqEndpointS_134 W ht) <;> assumption
theorem deqRolloutS_49 (W : Go.World) (ht : Tb W) : eqRolloutS (DD W 49) := by unfold eqRolloutS; intros; refine lk (g := 49) rfl Tryd.func27 mslaws_eqRollout ?_; apply eqRollout_b _ (deqIntSS_47 W ht) <;> assumption
theorem deqDealS_205 (W : Go.World) (ht : Tb W) : eqDealS (DD W 205) := by unfold eqDealS; intros; refine lk (g := 205) rfl Tryd.func50 mslaws_eqDeal ?_; apply eqDeal_b _ (deqIntSS_47 W ht) <;> assumption
theorem deqDialedS_135 (W : Go.World) (ht : Tb W) : eqDialedS (DD W 135) := by unfold eqDialedS; intros; refine lk (g := 135) rfl Tryd.func39 mslaws_eqDialed ?_; apply eqDialed_b _ (deqDealS_205 W ht) (deqIntSS_47 W ht) <;> assumption
theorem deqDialedSS_50 (W : Go.World) (ht : Tb W) : eqDialedSS (DD W 50) := by unfold eqDialedSS; intros; refine lk (g := 50) rfl Tryd.func28 mslaws_eqDialedS ?_; apply eqDialedS_b _ (deqDialedS_135 W ht) <;> assumption
theorem deqLoggedS_136 (W : Go.World) (ht : Tb W) : eqLoggedS (DD W 136) := by unfold eqLoggedS; intros; refine lk (g := 136) rfl Tryd.func40 mslaws_eqLogged ?_; apply eqLogged_b _ (deqDialedS_135 W ht) <;> assumption
theorem deqLoggedSS_51 (W : Go.World) (ht : Tb W) : eqLoggedSS (DD W 51) := by unfold eqLoggedSS; intros; refine lk (g := 51) rfl Tryd.func29 mslaws_eqLoggedS ?_; apply eqLoggedS_b _ (deqLoggedS_136 W ht) <;> assumption
theorem deqWorldS_11 (W : Go.World) (ht : Tb W) : eqWorldS (DD W 11) := by unfold eqWorldS; intros; refine lk (g := 11) rfl Tryd.func8 mslaws_eqWorld ?_; apply eqWorld_b _ (deqIntSS_47 W ht) (deqEndpointSS_48 W ht) (deqRolloutS_49 W ht) (deqDialedSS_50 W ht) (deqLoggedSS_51 W ht) <;> assumption
theorem dFnExactFormatWorldS_451 (W : Go.World) (ht : Tb W) : FnExactFormatWorldS (DD W 451) := by unfold FnExactFormatWorldS; intros; refine lk (g := 451) rfl Tryd.func3 mslaws_FnExactFormatWorld ?_; apply FnExactFormatWorld_b _ (dFormatWorldS_88 W ht) (dFormatWorldS_132 W ht) (dszWorldS_7 W ht) (dtoWorldS_8 W ht) (deqWorldS_11 W ht) <;> assumption
theorem den (W : Go.World) (ht : Tb W) (av : List V) (h : ArgsV [tyWorld] av) : DD W 451 av [] (B true) [] := by
  obtain ⟨v0, r0, h0, hr0, rfl⟩ := h
  obtain ⟨x0, rfl, l0, w0⟩ := argWorld h0
  have z : r0 = [] := hr0
  subst z
  exact dFnExactFormatWorldS_451 W ht _ (by assumption) (by assumption)
end Go.Eng.T

