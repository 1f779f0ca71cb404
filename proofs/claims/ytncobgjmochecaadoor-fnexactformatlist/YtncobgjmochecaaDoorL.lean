/- Own work: part 44 of the proof of FnExactFormatList. -/
import Derived.Test.YtncobgjmochecaaDoorP43
import Derived.Test.YtncobgjmochecaaDoorProg
import Derived.KernelRfl
namespace Go.Eng.T
open Go.Proofs Go.Lib
def fidL : List (Option Nat) := [none, none, none, none, none, none, none, none, none, none, none, none, none, none, none, none, none, none, none, none, none, none, none, none, none, none, none, none, none, none, none, some 6, none, none, none, none, none, none, none, none, none, none, none, none, none, none, none, some 8, none, none, none, none, none, none, none, none, none, none, none, none, none, none, none, none, none, none, none, none, none, none, none, none, none, none, none, none, none, none, none, none, none, none, none, none, none, some 5, none, none, none, none, none, none, none, some 19, none, none, none, none, none, none, none, none, none, none, none, none, none, none, none, none, none, none, none, none, none, none, none, none, none, none, some 22, none, some 7, none, none, none, none, none, none, none, none, none, none, none, none, none, none, none, none, none, none, none, none, none, none, none, none, none, none, none, none, none, none, none, some 14, none, none, none, none, none, none, none, none, none, none, none, none, none, none, none, none, none, none, none, none, none, none, none, none, none, none, none, none, none, none, some 25, none, some 15, none, none, none, none, none, none, none, none, none, none, none, none, none, none, none, none, none, none, none, none, none, none, none, none, none, none, none, none, none, none, none, none, none, none, none, none, none, none, none, none, none, none, none, none, none, none, none, none, none, none, none, none, none, some 24, none, none, none, none, none, none, none, none, none, none, none, none, none, none, none, none, none, none, none, none, none, none, none, none, none, none, none, none, none, none, none, none, none, none, none, none, none, none, none, none, none, none, none, none, none, none, none, none, none, none, none, none, none, none, none, none, none, none, none, none, none, none, none, none, none, none, none, none, none, none, none, none, none, none, none, none, none, none, none, none, none, none, none, none, none, none, none, none, none, none, none, none, none, none, none, none, none, none, none, none, none, none, none, none, none, none, none, none, none, none, none, none, none, none, none, none, none, none, none, none, none, none, none, none, none, none, none, none, none, none, none, none, none, none, none, none, none, none, none, none, none, none, none, none, none, none, none, none, none, none, none, none, none, none, none, none, none, none, none, none, none, none, none, none, none, none, none, none, none, none, none, none, none, none, none, none, none, none, none, none, none, none, none, none, none, none, none, none, none, none, none, none, none, none, none, none, none, none, none, none, none, none, none, none, none, none, none, none, none, none, some 3, none, none, none, none, none, none]
def fid : Nat → Option FuncId := fun g => fidL.getD g none
theorem hmix : Tryd.prog.follows .mixedOrders = true := by kernel_rfl
theorem hFl : fidL.all (fun o => match o with | some f => okF Tryd.prog f | none => true) = true := by kernel_rfl
theorem hF : ∀ g f, fid g = some f → okF Tryd.prog f = true := by
  intro g f h
  have := List.all_eq_true.1 hFl (some f) (by
    unfold fid at h
    rw [List.getD_eq_getElem?_getD] at h
    cases hg : fidL[g]? with
    | none => simp [hg] at h
    | some o => simp [hg] at h; subst h; exact List.mem_of_getElem? hg)
  exact this
theorem gTab : Tryd.prog.globalNamed "internal/strconv.uint64pow10" = some 1 := by kernel_rfl
theorem gTabType : (Tryd.prog.globals[1]?).map (·.type) = some 71 := by kernel_rfl
theorem cellsT : Tryd.prog.cellsOf 71 = 20 := by kernel_rfl
theorem cellsE : Tryd.prog.cellsOf 64 = 1 := by kernel_rfl
abbrev Tb (W : Go.World) : Prop := TabIs Tryd.prog W "internal/strconv.uint64pow10" .u64 pow10Tab
abbrev GW (W : Go.World) : Gl := ⟨fun b => b = 1, fun b => W.heap[b]?⟩
theorem gw {W : Go.World} (ht : Tb W) : ∀ b, (GW W) b → b < W.heap.size ∧ W.heap[b]? = (GW W).is b := by
  intro b hb
  have hb' : b = 1 := hb
  exact ⟨by rw [hb']; exact tab_size gTab ht, rfl⟩
abbrev DD (W : Go.World) : Dn := Den Tryd.prog fid (GW W)
theorem lk {W : Go.World} {g : Nat} {f : FuncId} {fn : Func} {st : List Tmp} {sf : SFn} (hg : fid g = some f) (hfn : Tryd.prog.funcs[f]? = some fn) (hm : mFn Tryd.prog fid st sf fn = true) {a : List V} {gi : List O} {r : V} {o : List O}
    (h : Body (DD W) sf a gi r o) : DD W g a gi r o :=
  fn_sound hmix (fun _ _ _ _ _ h => h) hF (fun id hid => by rw [hg] at hid; cases hid; exact hfn) hm h
theorem msspec_FormatInt : mFn Tryd.prog fid sspec_FormatInt_t sspec_FormatInt Tryd.f19 = true := by kernel_rfl
theorem msspec_l39Join : mFn Tryd.prog fid sspec_l39Join_t sspec_l39Join Tryd.f14 = true := by kernel_rfl
theorem msspec_FormatList : mFn Tryd.prog fid sspec_FormatList_t sspec_FormatList Tryd.f5 = true := by kernel_rfl
theorem msimpl_FormatInt : mFn Tryd.prog fid simpl_FormatInt_t simpl_FormatInt Tryd.f22 = true := by kernel_rfl
theorem msimpl_joined : mFn Tryd.prog fid simpl_joined_t simpl_joined Tryd.f15 = true := by kernel_rfl
theorem msimpl_FormatList : mFn Tryd.prog fid simpl_FormatList_t simpl_FormatList Tryd.f7 = true := by kernel_rfl
theorem mslaws_toIntS : mFn Tryd.prog fid slaws_toIntS_t slaws_toIntS Tryd.f6 = true := by kernel_rfl
theorem mslaws_eqIntS : mFn Tryd.prog fid slaws_eqIntS_t slaws_eqIntS Tryd.f8 = true := by kernel_rfl
theorem mslaws_FnExactFormatList : mFn Tryd.prog fid slaws_FnExactFormatList_t slaws_FnExactFormatList Tryd.f3 = true := by kernel_rfl
theorem dFormatIntS_93 (W : Go.World) (ht : Tb W) : FormatIntS (DD W 93) := by unfold FormatIntS; intros; refine lk (g := 93) rfl Tryd.func19 msspec_FormatInt ?_; apply sFormatInt_b _  <;> assumption
theorem djoinedS_154 (W : Go.World) (ht : Tb W) : joinedS (DD W 154) := by unfold joinedS; intros; refine lk (g := 154) rfl Tryd.func14 msspec_l39Join ?_; apply l39Join_b _ (dFormatIntS_93 W ht) <;> assumption
theorem dFormatListS_85 (W : Go.World) (ht : Tb W) : FormatListS (DD W 85) := by unfold FormatListS; intros; refine lk (g := 85) rfl Tryd.func5 msspec_FormatList ?_; apply sFormatList_b _ (djoinedS_154 W ht) <;> assumption
theorem dFormatIntS_185 (W : Go.World) (ht : Tb W) : FormatIntS (DD W 185) := itoa_den (k := 25) (b := 1) (W := W) rfl gTab rfl rfl ht (fun n h0 h1 w h => Tryd.strconv_Itoa n h0 h1 w h)
theorem dFormatIntS_120 (W : Go.World) (ht : Tb W) : FormatIntS (DD W 120) := by unfold FormatIntS; intros; refine lk (g := 120) rfl Tryd.func22 msimpl_FormatInt ?_; apply iFormatInt_b _ (dFormatIntS_185 W ht) <;> assumption
theorem dJoinS_241 (W : Go.World) (ht : Tb W) : JoinS (DD W 241) := join_den (k := 24) rfl (fun a c sep w => Tryd.strings_Join_none a c sep w) (fun bk o c xs sep w h1 h2 h3 h4 h5 => Tryd.strings_Join bk o c xs sep w h1 h2 h3 h4 h5)
theorem djoinedS_187 (W : Go.World) (ht : Tb W) : joinedS (DD W 187) := by unfold joinedS; intros; refine lk (g := 187) rfl Tryd.func15 msimpl_joined ?_; apply joined_b _ (dFormatIntS_120 W ht) (dJoinS_241 W ht) <;> assumption
theorem dFormatListS_122 (W : Go.World) (ht : Tb W) : FormatListS (DD W 122) := by unfold FormatListS; intros; refine lk (g := 122) rfl Tryd.func7 msimpl_FormatList ?_; apply iFormatList_b _ (djoinedS_187 W ht) <;> assumption
theorem dtoIntSS_31 (W : Go.World) (ht : Tb W) : toIntSS (DD W 31) := by unfold toIntSS; intros; refine lk (g := 31) rfl Tryd.func6 mslaws_toIntS ?_; apply toIntS_b _  <;> assumption
theorem deqIntSS_47 (W : Go.World) (ht : Tb W) : eqIntSS (DD W 47) := by unfold eqIntSS; intros; refine lk (g := 47) rfl Tryd.func8 mslaws_eqIntS ?_; apply eqIntS_b _  <;> assumption
theorem dFnExactFormatListS_452 (W : Go.World) (ht : Tb W) : FnExactFormatListS (DD W 452) := by unfold FnExactFormatListS; intros; refine lk (g := 452) rfl Tryd.func3 mslaws_FnExactFormatList ?_; apply FnExactFormatList_b _ (dFormatListS_85 W ht) (dFormatListS_122 W ht) (dtoIntSS_31 W ht) (deqIntSS_47 W ht) <;> assumption
theorem den (W : Go.World) (ht : Tb W) (av : List V) (h : ArgsV [.sl (.int .i64)] av) : DD W 452 av [] (B true) [] := by
  obtain ⟨v0, r0, h0, hr0, rfl⟩ := h
  obtain ⟨x0, rfl, l0, w0⟩ := argInts h0
  have z : r0 = [] := hr0
  subst z
  exact dFnExactFormatListS_452 W ht _ (by assumption) (by assumption)
end Go.Eng.T

