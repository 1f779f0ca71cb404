/- Own work: part 44 of the proof of FnExactFormatRollout. -/
import Derived.Test.YtlleegglgebhbaaDoorP43
import Derived.Test.YtlleegglgebhbaaDoorProg
import Derived.KernelRfl
namespace Go.Eng.T
open Go.Proofs Go.Lib
def fidL : List (Option Nat) := [none, none, none, none, none, none, none, none, none, none, none, none, none, none, none, none, some 16, none, some 9, none, none, none, none, none, none, none, none, none, none, none, none, some 6, none, some 11, none, none, none, none, none, none, none, none, none, none, none, none, none, some 8, none, some 13, none, none, none, none, none, none, none, none, none, none, none, none, none, none, none, none, none, none, none, none, none, none, none, none, none, none, none, none, none, none, none, none, none, none, none, none, none, none, none, none, none, none, none, some 17, none, none, none, none, none, none, none, none, none, none, none, none, none, none, none, none, none, none, none, none, none, none, none, none, none, none, some 18, none, none, none, none, none, none, none, none, none, none, none, none, none, none, none, none, none, none, none, none, none, none, none, none, none, none, none, none, none, none, none, none, none, some 14, none, none, none, none, none, some 10, none, none, none, none, none, none, none, none, none, none, none, none, none, none, none, none, none, none, none, none, none, none, none, none, some 20, none, some 15, none, none, none, none, none, none, none, none, none, none, none, some 12, none, none, none, none, none, none, none, none, none, none, none, none, none, none, none, none, none, none, none, none, none, none, none, none, none, none, none, none, none, none, none, none, none, none, none, none, none, none, none, none, none, some 19, none, none, none, none, none, none, none, none, none, none, none, none, none, none, none, none, none, none, none, none, none, none, none, none, none, none, none, none, none, none, none, none, none, none, none, none, none, none, none, none, none, none, none, none, none, none, none, none, none, none, none, none, none, none, none, none, none, none, none, none, none, none, none, none, none, none, none, none, none, none, none, none, none, none, none, none, none, none, none, none, none, none, none, none, none, none, none, none, none, none, none, none, none, none, none, none, none, none, none, none, none, none, none, none, none, none, none, none, none, none, none, none, none, none, none, none, none, none, none, none, none, none, none, none, none, none, none, none, none, none, none, none, none, none, none, none, none, none, none, none, none, none, none, none, none, none, none, none, none, none, none, none, none, none, none, none, none, none, none, none, none, none, none, none, none, none, none, none, none, none, none, none, none, none, none, none, none, none, none, none, none, none, none, none, none, none, none, none, none, none, none, none, none, none, none, none, none, none, none, none, none, none, none, none, none, none, none, none, none, none, none, some 4, none, none, none, none]
def fid : Nat → Option FuncId := fun g => fidL.getD g none
theorem hmix : Tryd.prog.follows .mixedOrders = true := by kernel_rfl
theorem hFl : fidL.all (fun o => match o with | some f => okF Tryd.prog f | none => true) = true := by kernel_rfl
theorem hF : ∀ g f, fid g = some f → okF Tryd.prog f = true := by
  intro g f h
  have := List.all_eq_true.1 hFl (some f) (by
    unfold fid at h
    rw [List.getD_eq_getElem?_getD] at h
    cases hg : fidL[g]? with
    | none => simp [hg] at h
    | some o => simp [hg] at h; subst h; exact List.mem_of_getElem? hg)
  exact this
theorem gTab : Tryd.prog.globalNamed "internal/strconv.uint64pow10" = some 1 := by kernel_rfl
theorem gTabType : (Tryd.prog.globals[1]?).map (·.type) = some 63 := by kernel_rfl
theorem cellsT : Tryd.prog.cellsOf 63 = 20 := by kernel_rfl
theorem cellsE : Tryd.prog.cellsOf 56 = 1 := by kernel_rfl
abbrev Tb (W : Go.World) : Prop := TabIs Tryd.prog W "internal/strconv.uint64pow10" .u64 pow10Tab
abbrev GW (W : Go.World) : Gl := ⟨fun b => b = 1, fun b => W.heap[b]?⟩
theorem gw {W : Go.World} (ht : Tb W) : ∀ b, (GW W) b → b < W.heap.size ∧ W.heap[b]? = (GW W).is b := by
  intro b hb
  have hb' : b = 1 := hb
  exact ⟨by rw [hb']; exact tab_size gTab ht, rfl⟩
abbrev DD (W : Go.World) : Dn := Den Tryd.prog fid (GW W)
theorem lk {W : Go.World} {g : Nat} {f : FuncId} {fn : Func} {st : List Tmp} {sf : SFn} (hg : fid g = some f) (hfn : Tryd.prog.funcs[f]? = some fn) (hm : mFn Tryd.prog fid st sf fn = true) {a : List V} {gi : List O} {r : V} {o : List O}
    (h : Body (DD W) sf a gi r o) : DD W g a gi r o :=
  fn_sound hmix (fun _ _ _ _ _ h => h) hF (fun id hid => by rw [hg] at hid; cases hid; exact hfn) hm h
theorem msspec_FormatInt : mFn Tryd.prog fid sspec_FormatInt_t sspec_FormatInt Tryd.f17 = true := by kernel_rfl
theorem msspec_l39Join : mFn Tryd.prog fid sspec_l39Join_t sspec_l39Join Tryd.f14 = true := by kernel_rfl
theorem msspec_FormatRollout : mFn Tryd.prog fid sspec_FormatRollout_t sspec_FormatRollout Tryd.f10 = true := by kernel_rfl
theorem msimpl_FormatInt : mFn Tryd.prog fid simpl_FormatInt_t simpl_FormatInt Tryd.f18 = true := by kernel_rfl
theorem msimpl_joined : mFn Tryd.prog fid simpl_joined_t simpl_joined Tryd.f15 = true := by kernel_rfl
theorem msimpl_FormatRollout : mFn Tryd.prog fid simpl_FormatRollout_t simpl_FormatRollout Tryd.f12 = true := by kernel_rfl
theorem mslaws_szIntS : mFn Tryd.prog fid slaws_szIntS_t slaws_szIntS Tryd.f16 = true := by kernel_rfl
theorem mslaws_szRollout : mFn Tryd.prog fid slaws_szRollout_t slaws_szRollout Tryd.f9 = true := by kernel_rfl
theorem mslaws_toIntS : mFn Tryd.prog fid slaws_toIntS_t slaws_toIntS Tryd.f6 = true := by kernel_rfl
theorem mslaws_toRollout : mFn Tryd.prog fid slaws_toRollout_t slaws_toRollout Tryd.f11 = true := by kernel_rfl
theorem mslaws_eqIntS : mFn Tryd.prog fid slaws_eqIntS_t slaws_eqIntS Tryd.f8 = true := by kernel_rfl
theorem mslaws_eqRollout : mFn Tryd.prog fid slaws_eqRollout_t slaws_eqRollout Tryd.f13 = true := by kernel_rfl
theorem mslaws_FnExactFormatRollout : mFn Tryd.prog fid slaws_FnExactFormatRollout_t slaws_FnExactFormatRollout Tryd.f4 = true := by kernel_rfl
theorem dFormatIntS_93 (W : Go.World) (ht : Tb W) : FormatIntS (DD W 93) := by unfold FormatIntS; intros; refine lk (g := 93) rfl Tryd.func17 msspec_FormatInt ?_; apply sFormatInt_b _  <;> assumption
theorem djoinedS_154 (W : Go.World) (ht : Tb W) : joinedS (DD W 154) := by unfold joinedS; intros; refine lk (g := 154) rfl Tryd.func14 msspec_l39Join ?_; apply l39Join_b _ (dFormatIntS_93 W ht) <;> assumption
theorem dFormatRolloutS_160 (W : Go.World) (ht : Tb W) : FormatRolloutS (DD W 160) := by unfold FormatRolloutS; intros; refine lk (g := 160) rfl Tryd.func10 msspec_FormatRollout ?_; apply sFormatRollout_b _ (dFormatIntS_93 W ht) (djoinedS_154 W ht) <;> assumption
theorem dFormatIntS_185 (W : Go.World) (ht : Tb W) : FormatIntS (DD W 185) := itoa_den (k := 20) (b := 1) (W := W) rfl gTab rfl rfl ht (fun n h0 h1 w h => Tryd.strconv_Itoa n h0 h1 w h)
theorem dFormatIntS_120 (W : Go.World) (ht : Tb W) : FormatIntS (DD W 120) := by unfold FormatIntS; intros; refine lk (g := 120) rfl Tryd.func18 msimpl_FormatInt ?_; apply iFormatInt_b _ (dFormatIntS_185 W ht) <;> assumption
theorem dJoinS_241 (W : Go.World) (ht : Tb W) : JoinS (DD W 241) := join_den (k := 19) rfl (fun a c sep w => Tryd.strings_Join_none a c sep w) (fun bk o c xs sep w h1 h2 h3 h4 h5 => Tryd.strings_Join bk o c xs sep w h1 h2 h3 h4 h5)
theorem djoinedS_187 (W : Go.World) (ht : Tb W) : joinedS (DD W 187) := by unfold joinedS; intros; refine lk (g := 187) rfl Tryd.func15 msimpl_joined ?_; apply joined_b _ (dFormatIntS_120 W ht) (dJoinS_241 W ht) <;> assumption
theorem dFormatRolloutS_199 (W : Go.World) (ht : Tb W) : FormatRolloutS (DD W 199) := by unfold FormatRolloutS; intros; refine lk (g := 199) rfl Tryd.func12 msimpl_FormatRollout ?_; apply iFormatRollout_b _ (dFormatIntS_120 W ht) (djoinedS_187 W ht) <;> assumption
theorem dszIntSS_16 (W : Go.World) (ht : Tb W) : szIntSS (DD W 16) := by unfold szIntSS; intros; refine lk (g := 16) rfl Tryd.func16 mslaws_szIntS ?_; apply szIntS_b _  <;> assumption
theorem dszRolloutS_18 (W : Go.World) (ht : Tb W) : szRolloutS (DD W 18) := by unfold szRolloutS; intros; refine lk (g := 18) rfl Tryd.func9 mslaws_szRollout ?_; apply szRollout_b _ (dszIntSS_16 W ht) <;> assumption
theorem dtoIntSS_31 (W : Go.World) (ht : Tb W) : toIntSS (DD W 31) := by unfold toIntSS; intros; refine lk (g := 31) rfl Tryd.func6 mslaws_toIntS ?_; apply toIntS_b _  <;> assumption
theorem dtoRolloutS_33 (W : Go.World) (ht : Tb W) : toRolloutS (DD W 33) := by unfold toRolloutS; intros; refine lk (g := 33) rfl Tryd.func11 mslaws_toRollout ?_; apply toRollout_b _ (dtoIntSS_31 W ht) <;> assumption
theorem deqIntSS_47 (W : Go.World) (ht : Tb W) : eqIntSS (DD W 47) := by unfold eqIntSS; intros; refine lk (g := 47) rfl Tryd.func8 mslaws_eqIntS ?_; apply eqIntS_b _  <;> assumption
theorem deqRolloutS_49 (W : Go.World) (ht : Tb W) : eqRolloutS (DD W 49) := by unfold eqRolloutS; intros; refine lk (g := 49) rfl Tryd.func13 mslaws_eqRollout ?_; apply eqRollout_b _ (deqIntSS_47 W ht) <;> assumption
theorem dFnExactFormatRolloutS_453 (W : Go.World) (ht : Tb W) : FnExactFormatRolloutS (DD W 453) := by unfold FnExactFormatRolloutS; intros; refine lk (g := 453) rfl Tryd.func4 mslaws_FnExactFormatRollout ?_; apply FnExactFormatRollout_b _ (dFormatRolloutS_160 W ht) (dFormatRolloutS_199 W ht) (dszRolloutS_18 W ht) (dtoRolloutS_33 W ht) (deqRolloutS_49 W ht) <;> assumption
theorem den (W : Go.World) (ht : Tb W) (av : List V) (h : ArgsV [tyRollout] av) : DD W 453 av [] (B true) [] := by
  obtain ⟨v0, r0, h0, hr0, rfl⟩ := h
  obtain ⟨x0, rfl, l0, w0⟩ := argRollout h0
  have z : r0 = [] := hr0
  subst z
  exact dFnExactFormatRolloutS_453 W ht _ (by assumption) (by assumption)
end Go.Eng.T

