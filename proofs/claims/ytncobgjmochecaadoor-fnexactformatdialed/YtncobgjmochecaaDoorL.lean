/- Own work: part 44 of the proof of FnExactFormatDialed. -/
import Derived.Test.YtncobgjmochecaaDoorP43
import Derived.Test.YtncobgjmochecaaDoorProg
import Derived.KernelRfl
namespace Go.Eng.T
open Go.Proofs Go.Lib
def fidL : List (Option Nat) := [none, none, none, none, none, none, none, none, none, none, none, none, none, none, none, none, some 17, none, none, none, none, none, none, none, none, none, none, none, none, none, none, some 6, none, none, none, none, none, none, none, none, none, none, none, none, none, none, none, some 8, none, none, none, none, none, none, none, none, none, none, none, none, none, none, none, some 9, none, none, none, none, none, none, none, none, none, none, none, none, none, none, none, none, none, some 10, none, none, none, none, none, none, none, none, none, none, none, some 19, none, none, none, none, none, some 11, none, none, none, none, none, none, none, none, none, none, none, none, none, none, none, none, none, none, none, none, some 22, none, none, none, none, none, some 12, none, none, none, none, none, none, none, none, some 13, none, none, none, none, some 16, none, none, none, none, none, none, none, none, none, none, none, none, some 18, some 14, none, none, none, none, none, none, none, none, none, none, none, none, none, none, none, none, some 20, none, none, none, none, none, none, none, none, none, none, none, none, none, some 25, none, some 15, none, none, none, none, some 21, none, none, none, none, none, none, none, none, none, none, none, none, some 23, none, none, none, none, none, none, none, none, none, none, none, none, none, none, none, none, none, none, none, none, none, none, none, none, none, none, none, none, none, none, none, none, none, none, none, some 24, none, none, none, none, none, none, none, none, none, none, none, none, none, none, none, none, none, none, none, none, none, none, none, none, none, none, none, none, none, none, none, none, none, none, none, none, none, none, none, none, none, none, none, none, none, none, none, none, none, none, none, none, none, none, none, none, none, none, none, none, none, none, none, none, none, none, none, none, none, none, none, none, none, none, none, none, none, none, none, none, none, none, none, none, none, none, none, none, none, none, none, none, none, none, none, none, none, none, none, none, none, none, none, none, none, none, none, none, none, none, none, none, none, none, none, none, none, none, none, none, none, none, none, none, none, none, none, none, none, none, none, none, none, none, none, none, none, none, none, none, none, none, none, none, none, none, none, none, none, none, none, none, none, none, none, none, none, none, none, none, none, none, none, none, none, none, none, none, none, none, none, none, none, none, none, none, none, none, none, none, none, none, none, none, none, none, none, none, none, none, none, none, none, none, none, none, none, none, none, none, none, none, none, none, none, none, none, some 4, none, none, none, none, none, none, none, none, none]
def fid : Nat → Option FuncId := fun g => fidL.getD g none
theorem hmix : Tryd.prog.follows .mixedOrders = true := by kernel_rfl
theorem hFl : fidL.all (fun o => match o with | some f => okF Tryd.prog f | none => true) = true := by kernel_rfl
theorem hF : ∀ g f, fid g = some f → okF Tryd.prog f = true := by
  intro g f h
  have := List.all_eq_true.1 hFl (some f) (by
    unfold fid at h
    rw [List.getD_eq_getElem?_getD] at h
    cases hg : fidL[g]? with
    | none => simp [hg] at h
    | some o => simp [hg] at h; subst h; exact List.mem_of_getElem? hg)
  exact this
theorem gTab : Tryd.prog.globalNamed "internal/strconv.uint64pow10" = some 1 := by kernel_rfl
theorem gTabType : (Tryd.prog.globals[1]?).map (·.type) = some 71 := by kernel_rfl
theorem cellsT : Tryd.prog.cellsOf 71 = 20 := by kernel_rfl
theorem cellsE : Tryd.prog.cellsOf 64 = 1 := by kernel_rfl
abbrev Tb (W : Go.World) : Prop := TabIs Tryd.prog W "internal/strconv.uint64pow10" .u64 pow10Tab
abbrev GW (W : Go.World) : Gl := ⟨fun b => b = 1, fun b => W.heap[b]?⟩
theorem gw {W : Go.World} (ht : Tb W) : ∀ b, (GW W) b → b < W.heap.size ∧ W.heap[b]? = (GW W).is b := by
  intro b hb
  have hb' : b = 1 := hb
  exact ⟨by rw [hb']; exact tab_size gTab ht, rfl⟩
abbrev DD (W : Go.World) : Dn := Den Tryd.prog fid (GW W)
theorem lk {W : Go.World} {g : Nat} {f : FuncId} {fn : Func} {st : List Tmp} {sf : SFn} (hg : fid g = some f) (hfn : Tryd.prog.funcs[f]? = some fn) (hm : mFn Tryd.prog fid st sf fn = true) {a : List V} {gi : List O} {r : V} {o : List O}
    (h : Body (DD W) sf a gi r o) : DD W g a gi r o :=
  fn_sound hmix (fun _ _ _ _ _ h => h) hF (fun id hid => by rw [hg] at hid; cases hid; exact hfn) hm h
theorem msspec_FormatInt : mFn Tryd.prog fid sspec_FormatInt_t sspec_FormatInt Tryd.f19 = true := by kernel_rfl
theorem msspec_l39Join : mFn Tryd.prog fid sspec_l39Join_t sspec_l39Join Tryd.f14 = true := by kernel_rfl
theorem msspec_FormatDeal : mFn Tryd.prog fid sspec_FormatDeal_t sspec_FormatDeal Tryd.f18 = true := by kernel_rfl
theorem msspec_FormatDialed : mFn Tryd.prog fid sspec_FormatDialed_t sspec_FormatDialed Tryd.f10 = true := by kernel_rfl
theorem msimpl_FormatInt : mFn Tryd.prog fid simpl_FormatInt_t simpl_FormatInt Tryd.f22 = true := by kernel_rfl
theorem msimpl_joined : mFn Tryd.prog fid simpl_joined_t simpl_joined Tryd.f15 = true := by kernel_rfl
theorem msimpl_FormatDeal : mFn Tryd.prog fid simpl_FormatDeal_t simpl_FormatDeal Tryd.f21 = true := by kernel_rfl
theorem msimpl_FormatDialed : mFn Tryd.prog fid simpl_FormatDialed_t simpl_FormatDialed Tryd.f12 = true := by kernel_rfl
theorem mslaws_szIntS : mFn Tryd.prog fid slaws_szIntS_t slaws_szIntS Tryd.f17 = true := by kernel_rfl
theorem mslaws_szDeal : mFn Tryd.prog fid slaws_szDeal_t slaws_szDeal Tryd.f16 = true := by kernel_rfl
theorem mslaws_szDialed : mFn Tryd.prog fid slaws_szDialed_t slaws_szDialed Tryd.f9 = true := by kernel_rfl
theorem mslaws_toIntS : mFn Tryd.prog fid slaws_toIntS_t slaws_toIntS Tryd.f6 = true := by kernel_rfl
theorem mslaws_toDeal : mFn Tryd.prog fid slaws_toDeal_t slaws_toDeal Tryd.f20 = true := by kernel_rfl
theorem mslaws_toDialed : mFn Tryd.prog fid slaws_toDialed_t slaws_toDialed Tryd.f11 = true := by kernel_rfl
theorem mslaws_eqIntS : mFn Tryd.prog fid slaws_eqIntS_t slaws_eqIntS Tryd.f8 = true := by kernel_rfl
theorem mslaws_eqDeal : mFn Tryd.prog fid slaws_eqDeal_t slaws_eqDeal Tryd.f23 = true := by kernel_rfl
theorem mslaws_eqDialed : mFn Tryd.prog fid slaws_eqDialed_t slaws_eqDialed Tryd.f13 = true := by kernel_rfl
theorem mslaws_FnExactFormatDialed : mFn Tryd.prog fid slaws_FnExactFormatDialed_t slaws_FnExactFormatDialed Tryd.f4 = true := by kernel_rfl
theorem dFormatIntS_93 (W : Go.World) (ht : Tb W) : FormatIntS (DD W 93) := by unfold FormatIntS; intros; refine lk (g := 93) rfl Tryd.func19 msspec_FormatInt ?_; apply sFormatInt_b _  <;> assumption
theorem djoinedS_154 (W : Go.World) (ht : Tb W) : joinedS (DD W 154) := by unfold joinedS; intros; refine lk (g := 154) rfl Tryd.func14 msspec_l39Join ?_; apply l39Join_b _ (dFormatIntS_93 W ht) <;> assumption
theorem dFormatDealS_153 (W : Go.World) (ht : Tb W) : FormatDealS (DD W 153) := by unfold FormatDealS; intros; refine lk (g := 153) rfl Tryd.func18 msspec_FormatDeal ?_; apply sFormatDeal_b _ (dFormatIntS_93 W ht) (djoinedS_154 W ht) <;> assumption
theorem dFormatDialedS_81 (W : Go.World) (ht : Tb W) : FormatDialedS (DD W 81) := by unfold FormatDialedS; intros; refine lk (g := 81) rfl Tryd.func10 msspec_FormatDialed ?_; apply sFormatDialed_b _ (dFormatIntS_93 W ht) (djoinedS_154 W ht) (dFormatDealS_153 W ht) <;> assumption
theorem dFormatIntS_185 (W : Go.World) (ht : Tb W) : FormatIntS (DD W 185) := itoa_den (k := 25) (b := 1) (W := W) rfl gTab rfl rfl ht (fun n h0 h1 w h => Tryd.strconv_Itoa n h0 h1 w h)
theorem dFormatIntS_120 (W : Go.World) (ht : Tb W) : FormatIntS (DD W 120) := by unfold FormatIntS; intros; refine lk (g := 120) rfl Tryd.func22 msimpl_FormatInt ?_; apply iFormatInt_b _ (dFormatIntS_185 W ht) <;> assumption
theorem dJoinS_241 (W : Go.World) (ht : Tb W) : JoinS (DD W 241) := join_den (k := 24) rfl (fun a c sep w => Tryd.strings_Join_none a c sep w) (fun bk o c xs sep w h1 h2 h3 h4 h5 => Tryd.strings_Join bk o c xs sep w h1 h2 h3 h4 h5)
theorem djoinedS_187 (W : Go.World) (ht : Tb W) : joinedS (DD W 187) := by unfold joinedS; intros; refine lk (g := 187) rfl Tryd.func15 msimpl_joined ?_; apply joined_b _ (dFormatIntS_120 W ht) (dJoinS_241 W ht) <;> assumption
theorem dFormatDealS_192 (W : Go.World) (ht : Tb W) : FormatDealS (DD W 192) := by unfold FormatDealS; intros; refine lk (g := 192) rfl Tryd.func21 msimpl_FormatDeal ?_; apply iFormatDeal_b _ (dFormatIntS_120 W ht) (djoinedS_187 W ht) <;> assumption
theorem dFormatDialedS_126 (W : Go.World) (ht : Tb W) : FormatDialedS (DD W 126) := by unfold FormatDialedS; intros; refine lk (g := 126) rfl Tryd.func12 msimpl_FormatDialed ?_; apply iFormatDialed_b _ (dFormatIntS_120 W ht) (djoinedS_187 W ht) (dFormatDealS_192 W ht) <;> assumption
theorem dszIntSS_16 (W : Go.World) (ht : Tb W) : szIntSS (DD W 16) := by unfold szIntSS; intros; refine lk (g := 16) rfl Tryd.func17 mslaws_szIntS ?_; apply szIntS_b _  <;> assumption
theorem dszDealS_140 (W : Go.World) (ht : Tb W) : szDealS (DD W 140) := by unfold szDealS; intros; refine lk (g := 140) rfl Tryd.func16 mslaws_szDeal ?_; apply szDeal_b _ (dszIntSS_16 W ht) <;> assumption
theorem dszDialedS_63 (W : Go.World) (ht : Tb W) : szDialedS (DD W 63) := by unfold szDialedS; intros; refine lk (g := 63) rfl Tryd.func9 mslaws_szDialed ?_; apply szDialed_b _ (dszDealS_140 W ht) (dszIntSS_16 W ht) <;> assumption
theorem dtoIntSS_31 (W : Go.World) (ht : Tb W) : toIntSS (DD W 31) := by unfold toIntSS; intros; refine lk (g := 31) rfl Tryd.func6 mslaws_toIntS ?_; apply toIntS_b _  <;> assumption
theorem dtoDealS_171 (W : Go.World) (ht : Tb W) : toDealS (DD W 171) := by unfold toDealS; intros; refine lk (g := 171) rfl Tryd.func20 mslaws_toDeal ?_; apply toDeal_b _ (dtoIntSS_31 W ht) <;> assumption
theorem dtoDialedS_99 (W : Go.World) (ht : Tb W) : toDialedS (DD W 99) := by unfold toDialedS; intros; refine lk (g := 99) rfl Tryd.func11 mslaws_toDialed ?_; apply toDialed_b _ (dtoDealS_171 W ht) (dtoIntSS_31 W ht) <;> assumption
theorem deqIntSS_47 (W : Go.World) (ht : Tb W) : eqIntSS (DD W 47) := by unfold eqIntSS; intros; refine lk (g := 47) rfl Tryd.func8 mslaws_eqIntS ?_; apply eqIntS_b _  <;> assumption
theorem deqDealS_205 (W : Go.World) (ht : Tb W) : eqDealS (DD W 205) := by unfold eqDealS; intros; refine lk (g := 205) rfl Tryd.func23 mslaws_eqDeal ?_; apply eqDeal_b _ (deqIntSS_47 W ht) <;> assumption
theorem deqDialedS_135 (W : Go.World) (ht : Tb W) : eqDialedS (DD W 135) := by unfold eqDialedS; intros; refine lk (g := 135) rfl Tryd.func13 mslaws_eqDialed ?_; apply eqDialed_b _ (deqDealS_205 W ht) (deqIntSS_47 W ht) <;> assumption
theorem dFnExactFormatDialedS_449 (W : Go.World) (ht : Tb W) : FnExactFormatDialedS (DD W 449) := by unfold FnExactFormatDialedS; intros; refine lk (g := 449) rfl Tryd.func4 mslaws_FnExactFormatDialed ?_; apply FnExactFormatDialed_b _ (dFormatDialedS_81 W ht) (dFormatDialedS_126 W ht) (dszDialedS_63 W ht) (dtoDialedS_99 W ht) (deqDialedS_135 W ht) <;> assumption
theorem den (W : Go.World) (ht : Tb W) (av : List V) (h : ArgsV [tyDialed] av) : DD W 449 av [] (B true) [] := by
  obtain ⟨v0, r0, h0, hr0, rfl⟩ := h
  obtain ⟨x0, rfl, l0, w0⟩ := argDialed h0
  have z : r0 = [] := hr0
  subst z
  exact dFnExactFormatDialedS_449 W ht _ (by assumption) (by assumption)
end Go.Eng.T

