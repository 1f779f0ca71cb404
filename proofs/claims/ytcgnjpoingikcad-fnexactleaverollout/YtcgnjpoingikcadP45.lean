/- Own work: part 45 of the proof of FnExactLeaveRollout. -/
import Derived.Test.YtcgnjpoingikcadP44
set_option linter.unusedSimpArgs false
set_option linter.unusedVariables false
namespace Go.Eng.T
set_option maxRecDepth 20000
set_option maxHeartbeats 1000000

/-- a row under way from xs to its images -/
def mapJ {α : Type} (f : α → α) (xs : List α) (j : Nat) : List α := (xs.take j).map f ++ xs.drop j
section
variable {α : Type} {f : α → α} {xs : List α} {j : Nat}
theorem mapJ_zero : mapJ f xs 0 = xs := by simp [mapJ]
theorem mapJ_all (h : xs.length ≤ j) : mapJ f xs j = xs.map f := by simp [mapJ, List.take_of_length_le h, List.drop_eq_nil_of_le h]
@[simp] theorem mapJ_len (h : j ≤ xs.length) : (mapJ f xs j).length = xs.length := by simp [mapJ]; omega
theorem mapJ_get (h : j < xs.length) : (mapJ f xs j)[j]'(by rw [mapJ_len (by omega)]; exact h) = xs[j] := by
  unfold mapJ
  have hl : ((xs.take j).map f).length = j := by simp; omega
  have hm : min j xs.length = j := by omega
  rw [List.getElem_append_right (by omega)]
  simp [hm]
theorem mapJ_set (h : j < xs.length) : (mapJ f xs j).set j (f xs[j]) = mapJ f xs (j + 1) := by
  unfold mapJ
  have hl : ((xs.take j).map f).length = j := by simp; omega
  have ht : xs.take (j + 1) = xs.take j ++ [xs[j]] := by simp
  rw [List.set_append_right _ _ (by omega), hl, Nat.sub_self, ht, List.map_append, List.drop_eq_getElem_cons h, List.set_cons_zero, List.append_assoc]
  rfl
theorem mapJ_same (h : j < xs.length) (hf : f xs[j] = xs[j]) : mapJ f xs (j + 1) = mapJ f xs j := by
  rw [← mapJ_set h, hf]
  have := mapJ_get (f := f) h
  conv => lhs; rw [← this]
  simp
end
def leaveEnd (w : World) (e : Endpoint) : Endpoint := if 0 < bestCommon w.server (withoutV e.versions w.rollout.version) then ⟨withoutV e.versions w.rollout.version, e.tags, e.path, e.cls⟩ else e
def leave (w : World) : World := { w with ends := w.ends.map (leaveEnd w), stage := [] }
abbrev LeaveRolloutS (R : Rel) : Prop := ∀ w : World, szWorld w ≤ 1048576 → R [arg (eWorld w)] [] (.agg (eWorld (leave w))) []
theorem wv_len (a : List Int) (v : Int) : (withoutV a v).length ≤ a.length := List.length_filter_le _ _
theorem end_vers {w : World} (h : szWorld w ≤ 1048576) {j : Nat} (hj : j < w.ends.length) : w.ends[j].versions.length ≤ 1048576 := by
  have := size_at (f := szEndpoint) hj
  have e : szEndpoint w.ends[j] = w.ends[j].versions.length + w.ends[j].tags.length + sumF szBox w.ends[j].path := rfl
  unfold szWorld at h
  omega
theorem world_serv {w : World} (h : szWorld w ≤ 1048576) : w.server.length ≤ 1048576 := by unfold szWorld at h; omega
theorem leave_flat (w : World) : (leave w).ends.length = w.ends.length := by simp [leave]
theorem sLeaveRollout_b (D : Dn) (hC : cpWorldS (D gspec_l32Copy)) (hW : l12WithoutS (D gspec_l12Without)) (hB : BestCommonS (D gspec_BestCommon)) : LeaveRolloutS (Body D sspec_LeaveRollout) := by
  intro w h
  have hl := world_ends h
  simp -implicitDefEqProofs
  refine callQ_of (hC w h) ?_
  simp -implicitDefEqProofs
  refine swp_loop (fun k s => ∃ j v5 o9, j + k = w.ends.length ∧ s = ⟨[.undef, .ptr 0 0, .ptr 1 0, .ptr 8 0, .sc (.int .i64 j), v5, .undef, .undef], [.var ((eWorld w).map (roCell 1)), .var [.nil 1, .nil 1, .sc (.int .i64 0), .nil 4, .sc (.int .i64 0), .nil 1, .sc (.int .i64 0), .sc (.bool false), .sc (.int .i64 0), .sc (.int .i64 0), .nil 5, .nil 8, .sc (.int .i64 0), .sc (.int .i64 0), .sc (.int .i64 0)], .arr 1 0 w.server.length (ints w.server), .arr 1 0 w.tags.length (ints w.tags), .arr 4 0 w.ends.length ((mapJ (leaveEnd w) w.ends j).flatMap eEndpoint), .arr 1 0 w.rollout.stages.length (ints w.rollout.stages), .arr 5 0 w.stage.length (w.stage.flatMap eDialed), .arr 8 0 w.log.length (w.log.flatMap eLogged), .var [.arr 2, .arr 3, .sc (.int .i64 w.key), .arr 4, .sc (.int .i64 w.rollout.version), .arr 5, .sc (.int .i64 w.rollout.pos), .sc (.bool w.rollout.off), .sc (.int .i64 w.least), .sc (.int .i64 w.percent), .arr 6, .arr 7, .sc (.int .i64 w.now), .sc (.int .i64 w.hurt), .sc (.int .i64 w.reached)], o9, .free]⟩) ?_ w.ends.length _ ⟨0, by simp [mapJ_zero]⟩
  intro k s ⟨j, v5, o9, hj, hs⟩
  subst hs
  by_cases hjn : j < w.ends.length
  · have hw : IntKind.i64.wrap ((j : Int) + 1) = (j + 1 : Nat) := by rw [wrap_id (by omega) (by omega)]; simp
    have hjl : j ≤ w.ends.length := by omega
    have hset := mapJ_set (f := leaveEnd w) hjn
    have hg := mapJ_get (f := leaveEnd w) hjn
    have hvl := end_vers h hjn
    have hwl := wv_len w.ends[j].versions w.rollout.version
    have hf : j * 4 < w.ends.length * 4 := by omega
    simp -implicitDefEqProofs [hjn, hjl, hg]
    refine callQ_of (hW w.ends[j].versions _ hvl) ?_
    simp -implicitDefEqProofs
    refine callQ_of (hB w.server _ (world_serv h) (by omega)) ?_
    by_cases h1 : 0 < bestCommon w.server (withoutV w.ends[j].versions w.rollout.version)
    · have e : leaveEnd w w.ends[j] = ⟨withoutV w.ends[j].versions w.rollout.version, w.ends[j].tags, w.ends[j].path, w.ends[j].cls⟩ := by unfold leaveEnd; rw [if_pos h1]
      rw [e] at hset
      simp -implicitDefEqProofs [h1, hjn, hjl, hg, hf]
      exact ⟨k - 1, by omega, j + 1, by omega, by simp [hw], by rw [← hset]⟩
    · have e : leaveEnd w w.ends[j] = w.ends[j] := by unfold leaveEnd; rw [if_neg h1]
      have hsame := mapJ_same hjn e
      simp -implicitDefEqProofs [h1]
      exact ⟨k - 1, by omega, j + 1, by omega, by simp [hw], by rw [hsame]⟩
  · have hx := mapJ_all (f := leaveEnd w) (xs := w.ends) (j := j) (by omega)
    simp -implicitDefEqProofs [hjn, hx, leave]
theorem iLeaveRollout_b (D : Dn) (hC : cpWorldS (D gimpl_copyWorld)) (hW : withoutS (D gimpl_without)) (hB : BestCommonS (D gimpl_BestCommon)) : LeaveRolloutS (Body D simpl_LeaveRollout) := by
  intro w h
  have hl := world_ends h
  simp -implicitDefEqProofs
  refine callQ_of (hC w h) ?_
  simp -implicitDefEqProofs
  refine swp_loop (fun k s => ∃ j v5 v6 v7 o9 o10 o11, j + k = w.ends.length ∧ s = ⟨[.undef, .ptr 0 0, .ptr 1 0, .ptr 8 0, .sc (.int .i64 w.rollout.version), v5, v6, v7, .arr 4, .sc (.int .i64 w.ends.length), .sc (.int .i64 j), .undef, .undef], [.var ((eWorld w).map (roCell 1)), .var [.nil 1, .nil 1, .sc (.int .i64 0), .nil 4, .sc (.int .i64 0), .nil 1, .sc (.int .i64 0), .sc (.bool false), .sc (.int .i64 0), .sc (.int .i64 0), .nil 5, .nil 8, .sc (.int .i64 0), .sc (.int .i64 0), .sc (.int .i64 0)], .arr 1 0 w.server.length (ints w.server), .arr 1 0 w.tags.length (ints w.tags), .arr 4 0 w.ends.length ((mapJ (leaveEnd w) w.ends j).flatMap eEndpoint), .arr 1 0 w.rollout.stages.length (ints w.rollout.stages), .arr 5 0 w.stage.length (w.stage.flatMap eDialed), .arr 8 0 w.log.length (w.log.flatMap eLogged), .var [.arr 2, .arr 3, .sc (.int .i64 w.key), .arr 4, .sc (.int .i64 w.rollout.version), .arr 5, .sc (.int .i64 w.rollout.pos), .sc (.bool w.rollout.off), .sc (.int .i64 w.least), .sc (.int .i64 w.percent), .arr 6, .arr 7, .sc (.int .i64 w.now), .sc (.int .i64 w.hurt), .sc (.int .i64 w.reached)], o9, o10, o11]⟩) ?_ w.ends.length _ ⟨0, by simp [mapJ_zero]⟩
  intro k s ⟨j, v5, v6, v7, o9, o10, o11, hj, hs⟩
  subst hs
  by_cases hjn : j < w.ends.length
  · have hw : IntKind.i64.wrap ((j : Int) + 1) = (j + 1 : Nat) := by rw [wrap_id (by omega) (by omega)]; simp
    have hjl : j ≤ w.ends.length := by omega
    have hset := mapJ_set (f := leaveEnd w) hjn
    have hg := mapJ_get (f := leaveEnd w) hjn
    have hvl := end_vers h hjn
    have hwl := wv_len w.ends[j].versions w.rollout.version
    have hf : j * 4 < w.ends.length * 4 := by omega
    simp -implicitDefEqProofs [hjn, hjl, hg]
    refine callQ_of (hW w.ends[j].versions _ hvl) ?_
    by_cases h0 : (withoutV w.ends[j].versions w.rollout.version).length < w.ends[j].versions.length
    · have h0' : ((withoutV w.ends[j].versions w.rollout.version).length : Int) < w.ends[j].versions.length := by omega
      simp -implicitDefEqProofs [h0, h0']
      refine callQ_of (hB w.server _ (world_serv h) (by omega)) ?_
      by_cases h1 : 0 < bestCommon w.server (withoutV w.ends[j].versions w.rollout.version)
      · have e : leaveEnd w w.ends[j] = ⟨withoutV w.ends[j].versions w.rollout.version, w.ends[j].tags, w.ends[j].path, w.ends[j].cls⟩ := by unfold leaveEnd; rw [if_pos h1]
        rw [e] at hset
        simp -implicitDefEqProofs [h1, hjn, hjl, hg, hf]
        exact ⟨k - 1, by omega, j + 1, by omega, by simp [hw], by rw [← hset]⟩
      · have e : leaveEnd w w.ends[j] = w.ends[j] := by unfold leaveEnd; rw [if_neg h1]
        have hsame := mapJ_same hjn e
        simp -implicitDefEqProofs [h1]
        exact ⟨k - 1, by omega, j + 1, by omega, by simp [hw], by rw [hsame]⟩
    · have h0' : ¬ ((withoutV w.ends[j].versions w.rollout.version).length : Int) < w.ends[j].versions.length := by omega
      have e : leaveEnd w w.ends[j] = w.ends[j] := by
        have hall : withoutV w.ends[j].versions w.rollout.version = w.ends[j].versions := List.filter_eq_self.2 (by
          have := List.length_filter_eq_length_iff (p := fun x => !decide (x = w.rollout.version)) (l := w.ends[j].versions)
          exact this.1 (by unfold withoutV at h0 hwl; omega))
        unfold leaveEnd
        rw [hall]
        split <;> rfl
      have hsame := mapJ_same hjn e
      simp -implicitDefEqProofs [h0, h0']
      exact ⟨k - 1, by omega, j + 1, by omega, by simp [hw], by rw [hsame]⟩
  · have hx := mapJ_all (f := leaveEnd w) (xs := w.ends) (j := j) (by omega)
    simp -implicitDefEqProofs [hjn, hx, leave]
end Go.Eng.T

namespace Go.Eng.T
theorem sumF_map_le {α : Type} {f : α → Nat} {g : α → α} (h : ∀ x, f (g x) ≤ f x) (xs : List α) : sumF f (xs.map g) ≤ sumF f xs := by
  induction xs with
  | nil => simp [sumF]
  | cons x r ih =>
    have := h x
    simp only [sumF, List.map_cons, List.length_cons, List.sum_cons] at *
    omega
theorem leaveEnd_sz (w : World) (x : Endpoint) : szEndpoint (leaveEnd w x) ≤ szEndpoint x := by
  unfold leaveEnd
  split
  · have := wv_len x.versions w.rollout.version
    simp only [szEndpoint]
    omega
  · exact Nat.le_refl _
theorem leave_sz (w : World) : szWorld (leave w) ≤ szWorld w := by
  have := sumF_map_le (f := szEndpoint) (leaveEnd_sz w) w.ends
  have h0 : sumF szDialed ([] : List Dialed) = 0 := rfl
  simp only [szWorld, leave, h0]
  omega
end Go.Eng.T

namespace Go.Eng.T
set_option maxRecDepth 20000
set_option maxHeartbeats 2000000
abbrev FnExactLeaveRolloutS (R : Rel) : Prop := ∀ (aW : World), lnWorld aW → rgWorld aW → R [arg (eWorld aW)] [] (B true) []
theorem FnExactLeaveRollout_b (D : Dn) (hs : LeaveRolloutS (D gspec_LeaveRollout)) (hi : LeaveRolloutS (D gimpl_LeaveRollout)) (hszWorld : szWorldS (D glaws_szWorld)) (htoWorld : toWorldS (D glaws_toWorld)) (heqWorld : eqWorldS (D glaws_eqWorld)) (hmarkWorld : markWorldS (D glaws_markWorld)) (hheldWorld : heldWorldS (D glaws_heldWorld)) : FnExactLeaveRolloutS (Body D slaws_FnExactLeaveRollout) := by
  intro aW l_aW w_aW
  simp -implicitDefEqProofs []
  refine callQ_of (hszWorld aW ((1048576 : Int)) (by omega) (by omega) l_aW) ?_
  by_cases g1 : (1048576 : Int) < ((szWorld aW : Nat) : Int)
  · simp -implicitDefEqProofs [szl_lt g1]
  have p1 : ¬ (1048576 : Int) - ((szWorld aW : Nat) : Int) < 0 := by omega
  simp -implicitDefEqProofs [szl_ge g1, p1]
  have hs' := hs aW (by omega)
  have hi' := hi aW (by omega)
  obtain ⟨b0, c0⟩ : szWorld (leave aW) ≤ 1099511627776 ∧ mcWorld (leave aW) ≤ 1099511627776 := (by have a1 := leave_sz aW; have a2 := mc_szWorld (leave aW); omega)
  generalize leave aW = r0 at hs' hi' b0 c0
  refine callQ_of (htoWorld aW (by omega)) ?_
  simp -implicitDefEqProofs [szl_ge g1, p1]
  refine callQ_of (hs') ?_
  simp -implicitDefEqProofs [szl_ge g1, p1]
  refine callQ_of (htoWorld aW (by omega)) ?_
  simp -implicitDefEqProofs [szl_ge g1, p1]
  refine callQ_of (hi') ?_
  simp -implicitDefEqProofs [szl_ge g1, p1]
  refine callQ_of (heqWorld r0 r0 (by omega) (by omega)) ?_
  simp -implicitDefEqProofs [szl_ge g1, p1]
  refine callQ_of (htoWorld aW (by omega)) ?_
  simp -implicitDefEqProofs [szl_ge g1, p1]
  refine callQ_of (heqWorld aW aW (by omega) (by omega)) ?_
  simp -implicitDefEqProofs [szl_ge g1, p1]
  have qaW := mc_szWorld aW
  have pkaW : ¬ 1 + ((mcWorld aW : Nat) : Int) < 0 := by omega
  refine callQ_of (hmarkWorld aW (1) (by omega) (by omega)) ?_
  simp -implicitDefEqProofs [szl_ge g1, p1, pkaW, mkWorld, mkRollout]
  refine callQ_of (heqWorld r0 r0 (by omega) (by omega)) ?_
  simp -implicitDefEqProofs [szl_ge g1, p1, pkaW, mkWorld, mkRollout]
  refine callQ_of (hmarkWorld r0 (1) (by omega) (by omega)) ?_
  simp -implicitDefEqProofs [szl_ge g1, p1, pkaW, mkWorld, mkRollout]
  have pq0 : ¬ 1 + ((mcWorld r0 : Nat) : Int) < 0 := by omega
  have hr := hheldWorld r0 (1) (by omega) (by omega)
  simp -implicitDefEqProofs [mkWorld, mkRollout] at hr
  refine callQ_of (hr) ?_
  simp -implicitDefEqProofs [szl_ge g1, p1, pkaW, mkWorld, mkRollout, pq0]
  refine callQ_of (htoWorld aW (by omega)) ?_
  simp -implicitDefEqProofs [szl_ge g1, p1, pkaW, mkWorld, mkRollout, pq0]
  refine callQ_of (hi') ?_
  simp -implicitDefEqProofs [szl_ge g1, p1, pkaW, mkWorld, mkRollout, pq0]
  refine callQ_of (heqWorld r0 r0 (by omega) (by omega)) ?_
  simp -implicitDefEqProofs [szl_ge g1, p1, pkaW, mkWorld, mkRollout, pq0]
  have hr := hheldWorld r0 (1) (by omega) (by omega)
  simp -implicitDefEqProofs [mkWorld, mkRollout] at hr
  refine callQ_of (hr) ?_
  simp -implicitDefEqProofs [szl_ge g1, p1, pkaW, mkWorld, mkRollout, pq0]
end Go.Eng.T

