/- Own work: part 44 of the proof of FnExactFormatEnd. -/
import Derived.Test.YtcgnjpoingikcaaDoorP43
import Derived.Test.YtcgnjpoingikcaaDoorProg
import Derived.KernelRfl
namespace Go.Eng.T
open Go.Proofs Go.Lib
def fidL : List (Option Nat) := [none, none, none, none, none, none, none, none, none, none, none, none, none, none, none, none, some 21, none, none, none, none, none, none, none, none, none, none, none, none, none, none, some 24, none, none, none, none, none, none, none, none, none, none, none, none, none, none, none, some 27, none, none, none, none, none, none, none, none, none, none, none, none, none, none, some 16, none, none, none, none, none, none, none, none, none, none, none, none, none, none, none, none, none, none, none, none, none, none, some 29, none, none, none, none, none, some 17, none, some 22, none, none, none, none, some 18, none, none, none, none, none, none, none, none, none, none, none, none, none, none, none, none, none, none, none, some 19, none, some 25, none, some 31, none, none, none, none, none, none, none, none, none, none, none, some 20, none, none, none, none, some 28, none, none, none, none, none, none, none, none, none, none, none, none, none, none, some 23, none, none, none, none, none, none, none, none, none, none, none, none, none, none, none, some 30, none, none, none, none, none, none, none, none, none, none, none, none, none, none, some 33, none, some 26, none, none, none, none, none, none, none, none, none, none, none, none, none, none, none, none, some 32, none, some 35, none, none, none, none, none, none, none, none, none, none, none, none, none, none, none, none, none, none, none, some 36, none, none, none, none, none, none, none, none, none, none, none, none, none, none, some 34, none, none, none, none, none, none, none, some 37, none, none, none, none, none, none, none, none, none, none, none, none, none, none, none, none, none, none, none, none, none, none, none, none, none, none, none, none, none, none, none, none, none, none, none, none, none, none, none, none, none, none, none, none, none, none, none, none, none, none, none, none, none, none, none, none, none, none, none, none, none, none, none, none, none, none, none, none, none, none, none, none, none, none, none, none, none, none, none, none, none, none, none, none, none, none, none, none, none, none, none, none, none, none, none, none, none, none, none, none, none, none, none, none, none, none, none, none, none, none, none, none, none, none, none, none, none, none, none, none, none, none, none, none, none, none, none, none, none, none, none, none, none, none, none, none, none, none, none, none, none, none, none, none, none, none, none, none, none, none, none, none, none, none, none, none, none, none, none, none, none, none, none, none, none, none, none, none, none, none, none, none, none, none, none, none, none, none, none, none, none, none, none, none, none, none, none, none, none, none, none, none, none, none, none, none, none, none, none, none, some 5, none, none, none, none, none, none, none]
def fid : Nat → Option FuncId := fun g => fidL.getD g none
theorem hmix : Tryd.prog.follows .mixedOrders = true := by kernel_rfl
theorem hFl : fidL.all (fun o => match o with | some f => okF Tryd.prog f | none => true) = true := by kernel_rfl
theorem hF : ∀ g f, fid g = some f → okF Tryd.prog f = true := by
  intro g f h
  have := List.all_eq_true.1 hFl (some f) (by
    unfold fid at h
    rw [List.getD_eq_getElem?_getD] at h
    cases hg : fidL[g]? with
    | none => simp [hg] at h
    | some o => simp [hg] at h; subst h; exact List.mem_of_getElem? hg)
  exact this
theorem gTab : Tryd.prog.globalNamed "internal/strconv.uint64pow10" = some 0 := by kernel_rfl
theorem gTabType : (Tryd.prog.globals[0]?).map (·.type) = some 91 := by kernel_rfl
theorem cellsT : Tryd.prog.cellsOf 91 = 20 := by kernel_rfl
theorem cellsE : Tryd.prog.cellsOf 81 = 1 := by kernel_rfl
abbrev Tb (W : Go.World) : Prop := TabIs Tryd.prog W "internal/strconv.uint64pow10" .u64 pow10Tab
abbrev GW (W : Go.World) : Gl := ⟨fun b => b = 0, fun b => W.heap[b]?⟩
theorem gw {W : Go.World} (ht : Tb W) : ∀ b, (GW W) b → b < W.heap.size ∧ W.heap[b]? = (GW W).is b := by
  intro b hb
  have hb' : b = 0 := hb
  exact ⟨by rw [hb']; exact tab_size gTab ht, rfl⟩
abbrev DD (W : Go.World) : Dn := Den Tryd.prog fid (GW W)
theorem lk {W : Go.World} {g : Nat} {f : FuncId} {fn : Func} {st : List Tmp} {sf : SFn} (hg : fid g = some f) (hfn : Tryd.prog.funcs[f]? = some fn) (hm : mFn Tryd.prog fid st sf fn = true) {a : List V} {gi : List O} {r : V} {o : List O}
    (h : Body (DD W) sf a gi r o) : DD W g a gi r o :=
  fn_sound hmix (fun _ _ _ _ _ h => h) hF (fun id hid => by rw [hg] at hid; cases hid; exact hfn) hm h
theorem msspec_FormatInt : mFn Tryd.prog fid sspec_FormatInt_t sspec_FormatInt Tryd.f22 = true := by kernel_rfl
theorem msspec_l39Join : mFn Tryd.prog fid sspec_l39Join_t sspec_l39Join Tryd.f23 = true := by kernel_rfl
theorem msspec_FormatList : mFn Tryd.prog fid sspec_FormatList_t sspec_FormatList Tryd.f29 = true := by kernel_rfl
theorem msspec_FormatEnd : mFn Tryd.prog fid sspec_FormatEnd_t sspec_FormatEnd Tryd.f17 = true := by kernel_rfl
theorem msimpl_FormatInt : mFn Tryd.prog fid simpl_FormatInt_t simpl_FormatInt Tryd.f25 = true := by kernel_rfl
theorem msimpl_joined : mFn Tryd.prog fid simpl_joined_t simpl_joined Tryd.f26 = true := by kernel_rfl
theorem msimpl_FormatList : mFn Tryd.prog fid simpl_FormatList_t simpl_FormatList Tryd.f31 = true := by kernel_rfl
theorem msimpl_FormatEnd : mFn Tryd.prog fid simpl_FormatEnd_t simpl_FormatEnd Tryd.f19 = true := by kernel_rfl
theorem mslaws_szIntS : mFn Tryd.prog fid slaws_szIntS_t slaws_szIntS Tryd.f21 = true := by kernel_rfl
theorem mslaws_szBox : mFn Tryd.prog fid slaws_szBox_t slaws_szBox Tryd.f35 = true := by kernel_rfl
theorem mslaws_szBoxS : mFn Tryd.prog fid slaws_szBoxS_t slaws_szBoxS Tryd.f28 = true := by kernel_rfl
theorem mslaws_szEndpoint : mFn Tryd.prog fid slaws_szEndpoint_t slaws_szEndpoint Tryd.f16 = true := by kernel_rfl
theorem mslaws_toIntS : mFn Tryd.prog fid slaws_toIntS_t slaws_toIntS Tryd.f24 = true := by kernel_rfl
theorem mslaws_toBox : mFn Tryd.prog fid slaws_toBox_t slaws_toBox Tryd.f36 = true := by kernel_rfl
theorem mslaws_toBoxS : mFn Tryd.prog fid slaws_toBoxS_t slaws_toBoxS Tryd.f30 = true := by kernel_rfl
theorem mslaws_toEndpoint : mFn Tryd.prog fid slaws_toEndpoint_t slaws_toEndpoint Tryd.f18 = true := by kernel_rfl
theorem mslaws_eqIntS : mFn Tryd.prog fid slaws_eqIntS_t slaws_eqIntS Tryd.f27 = true := by kernel_rfl
theorem mslaws_eqBox : mFn Tryd.prog fid slaws_eqBox_t slaws_eqBox Tryd.f37 = true := by kernel_rfl
theorem mslaws_eqBoxS : mFn Tryd.prog fid slaws_eqBoxS_t slaws_eqBoxS Tryd.f32 = true := by kernel_rfl
theorem mslaws_eqEndpoint : mFn Tryd.prog fid slaws_eqEndpoint_t slaws_eqEndpoint Tryd.f20 = true := by kernel_rfl
theorem mslaws_FnExactFormatEnd : mFn Tryd.prog fid slaws_FnExactFormatEnd_t slaws_FnExactFormatEnd Tryd.f5 = true := by kernel_rfl
theorem dFormatIntS_93 (W : Go.World) (ht : Tb W) : FormatIntS (DD W 93) := by unfold FormatIntS; intros; refine lk (g := 93) rfl Tryd.func22 msspec_FormatInt ?_; apply sFormatInt_b _  <;> assumption
theorem djoinedS_154 (W : Go.World) (ht : Tb W) : joinedS (DD W 154) := by unfold joinedS; intros; refine lk (g := 154) rfl Tryd.func23 msspec_l39Join ?_; apply l39Join_b _ (dFormatIntS_93 W ht) <;> assumption
theorem dFormatListS_85 (W : Go.World) (ht : Tb W) : FormatListS (DD W 85) := by unfold FormatListS; intros; refine lk (g := 85) rfl Tryd.func29 msspec_FormatList ?_; apply sFormatList_b _ (djoinedS_154 W ht) <;> assumption
theorem dFormatEndS_91 (W : Go.World) (ht : Tb W) : FormatEndS (DD W 91) := by unfold FormatEndS; intros; refine lk (g := 91) rfl Tryd.func17 msspec_FormatEnd ?_; apply sFormatEnd_b _ (dFormatIntS_93 W ht) (dFormatListS_85 W ht) <;> assumption
theorem dFormatIntS_185 (W : Go.World) (ht : Tb W) : FormatIntS (DD W 185) := itoa_den (k := 33) (b := 0) (W := W) rfl gTab rfl rfl ht (fun n h0 h1 w h => Tryd.strconv_Itoa n h0 h1 w h)
theorem dFormatIntS_120 (W : Go.World) (ht : Tb W) : FormatIntS (DD W 120) := by unfold FormatIntS; intros; refine lk (g := 120) rfl Tryd.func25 msimpl_FormatInt ?_; apply iFormatInt_b _ (dFormatIntS_185 W ht) <;> assumption
theorem dJoinS_241 (W : Go.World) (ht : Tb W) : JoinS (DD W 241) := join_den (k := 34) rfl (fun a c sep w => Tryd.strings_Join_none a c sep w) (fun bk o c xs sep w h1 h2 h3 h4 h5 => Tryd.strings_Join bk o c xs sep w h1 h2 h3 h4 h5)
theorem djoinedS_187 (W : Go.World) (ht : Tb W) : joinedS (DD W 187) := by unfold joinedS; intros; refine lk (g := 187) rfl Tryd.func26 msimpl_joined ?_; apply joined_b _ (dFormatIntS_120 W ht) (dJoinS_241 W ht) <;> assumption
theorem dFormatListS_122 (W : Go.World) (ht : Tb W) : FormatListS (DD W 122) := by unfold FormatListS; intros; refine lk (g := 122) rfl Tryd.func31 msimpl_FormatList ?_; apply iFormatList_b _ (djoinedS_187 W ht) <;> assumption
theorem dFormatEndS_118 (W : Go.World) (ht : Tb W) : FormatEndS (DD W 118) := by unfold FormatEndS; intros; refine lk (g := 118) rfl Tryd.func19 msimpl_FormatEnd ?_; apply iFormatEnd_b _ (dFormatIntS_120 W ht) (dFormatListS_122 W ht) <;> assumption
theorem dszIntSS_16 (W : Go.World) (ht : Tb W) : szIntSS (DD W 16) := by unfold szIntSS; intros; refine lk (g := 16) rfl Tryd.func21 mslaws_szIntS ?_; apply szIntS_b _  <;> assumption
theorem dszBoxS_206 (W : Go.World) (ht : Tb W) : szBoxS (DD W 206) := by unfold szBoxS; intros; refine lk (g := 206) rfl Tryd.func35 mslaws_szBox ?_; apply szBox_b _ (dszIntSS_16 W ht) <;> assumption
theorem dszBoxSS_139 (W : Go.World) (ht : Tb W) : szBoxSS (DD W 139) := by unfold szBoxSS; intros; refine lk (g := 139) rfl Tryd.func28 mslaws_szBoxS ?_; apply szBoxS_b _ (dszBoxS_206 W ht) <;> assumption
theorem dszEndpointS_62 (W : Go.World) (ht : Tb W) : szEndpointS (DD W 62) := by unfold szEndpointS; intros; refine lk (g := 62) rfl Tryd.func16 mslaws_szEndpoint ?_; apply szEndpoint_b _ (dszIntSS_16 W ht) (dszBoxSS_139 W ht) <;> assumption
theorem dtoIntSS_31 (W : Go.World) (ht : Tb W) : toIntSS (DD W 31) := by unfold toIntSS; intros; refine lk (g := 31) rfl Tryd.func24 mslaws_toIntS ?_; apply toIntS_b _  <;> assumption
theorem dtoBoxS_226 (W : Go.World) (ht : Tb W) : toBoxS (DD W 226) := by unfold toBoxS; intros; refine lk (g := 226) rfl Tryd.func36 mslaws_toBox ?_; apply toBox_b _ (dtoIntSS_31 W ht) <;> assumption
theorem dtoBoxSS_170 (W : Go.World) (ht : Tb W) : toBoxSS (DD W 170) := by unfold toBoxSS; intros; refine lk (g := 170) rfl Tryd.func30 mslaws_toBoxS ?_; apply toBoxS_b _ (dtoBoxS_226 W ht) <;> assumption
theorem dtoEndpointS_98 (W : Go.World) (ht : Tb W) : toEndpointS (DD W 98) := by unfold toEndpointS; intros; refine lk (g := 98) rfl Tryd.func18 mslaws_toEndpoint ?_; apply toEndpoint_b _ (dtoIntSS_31 W ht) (dtoBoxSS_170 W ht) <;> assumption
theorem deqIntSS_47 (W : Go.World) (ht : Tb W) : eqIntSS (DD W 47) := by unfold eqIntSS; intros; refine lk (g := 47) rfl Tryd.func27 mslaws_eqIntS ?_; apply eqIntS_b _  <;> assumption
theorem deqBoxS_249 (W : Go.World) (ht : Tb W) : eqBoxS (DD W 249) := by unfold eqBoxS; intros; refine lk (g := 249) rfl Tryd.func37 mslaws_eqBox ?_; apply eqBox_b _ (deqIntSS_47 W ht) <;> assumption
theorem deqBoxSS_204 (W : Go.World) (ht : Tb W) : eqBoxSS (DD W 204) := by unfold eqBoxSS; intros; refine lk (g := 204) rfl Tryd.func32 mslaws_eqBoxS ?_; apply eqBoxS_b _ (deqBoxS_249 W ht) <;> assumption
theorem deqEndpointS_134 (W : Go.World) (ht : Tb W) : eqEndpointS (DD W 134) := by unfold eqEndpointS; intros; refine lk (g := 134) rfl Tryd.func20 mslaws_eqEndpoint ?_; apply eqEndpoint_b _ (deqIntSS_47 W ht) (deqBoxSS_204 W ht) <;> assumption
theorem dFnExactFormatEndS_450 (W : Go.World) (ht : Tb W) : FnExactFormatEndS (DD W 450) := by unfold FnExactFormatEndS; intros; refine lk (g := 450) rfl Tryd.func5 mslaws_FnExactFormatEnd ?_; apply FnExactFormatEnd_b _ (dFormatEndS_91 W ht) (dFormatEndS_118 W ht) (dszEndpointS_62 W ht) (dtoEndpointS_98 W ht) (deqEndpointS_134 W ht) <;> assumption
theorem den (W : Go.World) (ht : Tb W) (av : List V) (h : ArgsV [tyEndpoint] av) : DD W 450 av [] (B true) [] := by
  obtain ⟨v0, r0, h0, hr0, rfl⟩ := h
  obtain ⟨x0, rfl, l0, w0⟩ := argEndpoint h0
  have z : r0 = [] := hr0
  subst z
  exact dFnExactFormatEndS_450 W ht _ (by assumption) (by assumption)
end Go.Eng.T

