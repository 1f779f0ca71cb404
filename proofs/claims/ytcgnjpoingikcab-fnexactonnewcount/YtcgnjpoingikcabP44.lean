/- Own work: part 44 of the proof of FnExactOnNewCount. -/
import Derived.Test.YtcgnjpoingikcabP43
set_option linter.unusedSimpArgs false
set_option linter.unusedVariables false
namespace Go.Eng.T
abbrev szDialedSS (R : Rel) : Prop := ∀ (xs : List Dialed) (l : Int), 0 ≤ l → l ≤ 1048576 → lnS lnDialed xs → R [.sl 1 5 xs.length (xs.flatMap eDialed), I l] [] (I (szl (sumF szDialed xs) l)) []
theorem szDialedS_b (D : Dn) (hsz : szDialedS (D 63)) : szDialedSS (Body D slaws_szDialedS) := by
  intro xs l h1 h2 hln
  have h3 := hln.1
  unfold maxLen at h3
  have hw : IntKind.i64.wrap (l - (xs.length : Int)) = l - xs.length := wrap_id (by omega) (by omega)
  by_cases h : l < (xs.length : Int)
  · have h' : l - (xs.length : Int) < 0 := by omega
    have e2 : szl (sumF szDialed xs) l = -1 := by unfold szl sumF; rw [if_pos (by omega)]
    simp -implicitDefEqProofs [hw, h', e2]
  · have h' : ¬ l - (xs.length : Int) < 0 := by omega
    simp -implicitDefEqProofs [hw, h']
    refine swp_loop (fun k s => ∃ j, j + k = xs.length ∧ ((xs.take j).map szDialed).sum + xs.length ≤ l ∧ s = ⟨[.sl 1 5 xs.length (xs.flatMap eDialed), .sc (.int .i64 (l - xs.length - ((((xs.take j).map szDialed).sum : Nat) : Int))), .undef, .sc (.int .i64 j), .undef, .undef, .undef], []⟩) ?_ xs.length _ ⟨0, by simp, by simp; omega, by simp⟩
    intro k s ⟨j, hj, hp, hs⟩
    subst hs
    by_cases hjn : j < xs.length
    · have hw : IntKind.i64.wrap ((j : Int) + 1) = (j + 1 : Nat) := by rw [wrap_id (by omega) (by omega)]; simp
      have ht := sum_take (f := szDialed) hjn
      have htl := sum_take_le (f := szDialed) (xs := xs) (j := j + 1)
      simp -implicitDefEqProofs [hjn, -List.map_take]
      refine callQ_of (hsz xs[j] _ (by omega) (by omega) (hln.2 j hjn)) ?_
      by_cases he : l - xs.length - ((((xs.take j).map szDialed).sum : Nat) : Int) < szDialed xs[j]
      · have e1 : szl (szDialed xs[j]) (l - xs.length - ((((xs.take j).map szDialed).sum : Nat) : Int)) = -1 := by unfold szl; rw [if_pos he]
        have e2 : szl (sumF szDialed xs) l = -1 := by unfold szl sumF; rw [if_pos (by omega)]
        simp -implicitDefEqProofs [e1, e2, -List.map_take]
      · have e1 : szl (szDialed xs[j]) (l - xs.length - ((((xs.take j).map szDialed).sum : Nat) : Int)) = l - xs.length - ((((xs.take j).map szDialed).sum : Nat) : Int) - szDialed xs[j] := by unfold szl; rw [if_neg he]
        have e3 : ¬ l - xs.length - ((((xs.take j).map szDialed).sum : Nat) : Int) - szDialed xs[j] < 0 := by omega
        simp -implicitDefEqProofs [e1, e3, -List.map_take]
        refine ⟨k - 1, by omega, j + 1, by omega, by omega, ?_, by simp [hw]⟩
        rw [ht]; omega
    · have hsm := sum_all (f := szDialed) (xs := xs) (j := j) (by omega)
      have e2 : szl (sumF szDialed xs) l = l - xs.length - ((((xs.take j).map szDialed).sum : Nat) : Int) := by unfold szl sumF; rw [if_neg (by omega)]; omega
      simp -implicitDefEqProofs [hjn, e2, -List.map_take]
abbrev toDialedSS (R : Rel) : Prop := ∀ xs : List Dialed, sumF szDialed xs ≤ 1048576 → R [.sl 1 5 xs.length (xs.flatMap eDialed)] [] (.sl 0 5 xs.length (xs.flatMap eDialed)) []
theorem toDialedS_b (D : Dn) (hto : toDialedS (D 99)) : toDialedSS (Body D slaws_toDialedS) := by
  intro xs h
  have hlen := size_len (f := szDialed) (xs := xs)
  have h1 : ((xs.length : Nat) : Int) * 72 ≤ 1099511627776 := by omega
  simp -implicitDefEqProofs [h1]
  refine swp_loop (fun k s => ∃ j o1 o2, j + k = xs.length ∧ s = ⟨[.sl 1 5 xs.length (xs.flatMap eDialed), .undef, .arr 0, .sc (.int .i64 j), .undef], [.arr 5 0 xs.length ((mix (⟨⟨false, 0, []⟩, 0, []⟩ : Dialed) xs j).flatMap eDialed), o1, o2]⟩) ?_ xs.length _ ⟨0, .free, .free, by simp, by simp [mix_zero]; exact rep_flat (f := eDialed) (⟨⟨false, 0, []⟩, 0, []⟩ : Dialed) _⟩
  intro k s ⟨j, o1, o2, hj, hs⟩
  subst hs
  by_cases hjn : j < xs.length
  · have hw : IntKind.i64.wrap ((j : Int) + 1) = (j + 1 : Nat) := by rw [wrap_id (by omega) (by omega)]; simp
    have hsz := size_at (f := szDialed) hjn
    have hfit : j * 5 + 5 ≤ xs.length * 5 := by omega
    have hjl : j ≤ xs.length := by omega
    simp -implicitDefEqProofs [hjn]
    refine callQ_of (hto xs[j] (by omega)) ?_
    simp -implicitDefEqProofs [hjn, hfit, hjl]
    exact ⟨k - 1, by omega, j + 1, by omega, by simp [hw], by rw [← mix_set hjn]⟩
  · have hje : mix (⟨⟨false, 0, []⟩, 0, []⟩ : Dialed) xs j = xs := mix_all (by omega)
    simp -implicitDefEqProofs [hjn, hje]
abbrev eqDialedSS (R : Rel) : Prop := ∀ xs ys : List Dialed, sumF szDialed xs ≤ 2 ^ 40 → sumF szDialed ys ≤ 2 ^ 40 → R [.sl 1 5 xs.length (xs.flatMap eDialed), .sl 1 5 ys.length (ys.flatMap eDialed)] [] (B (decide (xs = ys))) []
theorem eqDialedS_b (D : Dn) (heq : eqDialedS (D 135)) : eqDialedSS (Body D slaws_eqDialedS) := by
  intro xs ys h1 h2
  have hlen := size_len (f := szDialed) (xs := xs)
  by_cases hl : xs.length = ys.length
  · have hl' : (xs.length : Int) = ys.length := by omega
    simp -implicitDefEqProofs [hl']
    refine swp_loop (fun k s => ∃ j, j + k = xs.length ∧ xs.take j = ys.take j ∧ s = ⟨[.sl 1 5 xs.length (xs.flatMap eDialed), .sl 1 5 ys.length (ys.flatMap eDialed), .undef, .sc (.int .i64 j), .undef, .undef, .undef], []⟩) ?_ xs.length _ ⟨0, by simp, by simp, by simp⟩
    intro k s ⟨j, hj, hp, hs⟩
    subst hs
    by_cases hjn : j < xs.length
    · have hw : IntKind.i64.wrap ((j : Int) + 1) = (j + 1 : Nat) := by rw [wrap_id (by omega) (by omega)]; simp
      have hy : j < ys.length := by omega
      have hsx := size_at (f := szDialed) hjn
      have hsy := size_at (f := szDialed) hy
      simp -implicitDefEqProofs [hjn, hy]
      refine callQ_of (heq xs[j] ys[j] (by omega) (by omega)) ?_
      by_cases he : xs[j] = ys[j]
      · simp -implicitDefEqProofs [he]
        exact ⟨k - 1, by omega, j + 1, by omega, take_step hjn hy hp he, by simp [hw]⟩
      · have hne : xs ≠ ys := fun h => he (by simp [h])
        simp -implicitDefEqProofs [he, hne]
    · obtain rfl : xs = ys := take_all (by omega) hl hp
      simp -implicitDefEqProofs [hjn]
  · have hl' : ¬ (xs.length : Int) = ys.length := by omega
    have : xs ≠ ys := fun h => hl (by rw [h])
    simp -implicitDefEqProofs [hl', this]
abbrev szLoggedS (R : Rel) : Prop := ∀ (x : Logged) (l : Int), 0 ≤ l → l ≤ 1048576 → lnLogged x → R [arg (eLogged x), I l] [] (I (szl (szLogged x) l)) []
theorem szLogged_b (D : Dn) (hszDialed : szDialedS (D 63)) : szLoggedS (Body D slaws_szLogged) := by
  intro x l hl1 hl2 hln
  simp only [lnLogged] at hln
  simp -implicitDefEqProofs
  refine callQ_of (hszDialed x.dialed (l) (by omega) (by omega) hln) ?_
  by_cases g0 : l < ((szDialed x.dialed : Nat) : Int)
  · have gg : l < ((szLogged x : Nat) : Int) := by simp only [szLogged]; omega
    have e1 : szl (szDialed x.dialed) (l) = -1 := by unfold szl; rw [if_pos g0]
    have e2 : szl (szLogged x) l = -1 := by unfold szl; rw [if_pos gg]
    simp -implicitDefEqProofs [e1, e2]
  have e3 : szl (szDialed x.dialed) (l) = l - ((szDialed x.dialed : Nat) : Int) := by unfold szl; rw [if_neg g0]
  have p0 : ¬ l - ((szDialed x.dialed : Nat) : Int) < 0 := by omega
  simp -implicitDefEqProofs [e3, p0]
  have gg : ¬ l < ((szLogged x : Nat) : Int) := by simp only [szLogged]; omega
  unfold szl; rw [if_neg gg]; simp only [szLogged] <;> omega
abbrev toLoggedS (R : Rel) : Prop := ∀ x : Logged, szLogged x ≤ 1048576 → R [arg (eLogged x)] [] (.agg (eLogged x)) []
theorem toLogged_b (D : Dn) (htoDialed : toDialedS (D 99)) : toLoggedS (Body D slaws_toLogged) := by
  intro x h
  simp only [szLogged] at h
  simp -implicitDefEqProofs
  refine callQ_of (htoDialed x.dialed (by omega)) ?_
  simp -implicitDefEqProofs
abbrev eqLoggedS (R : Rel) : Prop := ∀ x y : Logged, szLogged x ≤ 2 ^ 40 → szLogged y ≤ 2 ^ 40 → R [arg (eLogged x), arg (eLogged y)] [] (B (decide (x = y))) []
theorem eqLogged_b (D : Dn) (heqDialed : eqDialedS (D 135)) : eqLoggedS (Body D slaws_eqLogged) := by
  intro x y h1 h2
  simp only [szLogged] at h1 h2
  by_cases g_fin : x.fin = y.fin
  rotate_left
  · have hne : x ≠ y := fun h => g_fin (by rw [h])
    simp -implicitDefEqProofs [g_fin, hne]
  simp -implicitDefEqProofs [g_fin]
  by_cases g_tick : x.tick = y.tick
  rotate_left
  · have hne : x ≠ y := fun h => g_tick (by rw [h])
    simp -implicitDefEqProofs [g_tick, hne]
  simp -implicitDefEqProofs [g_tick]
  by_cases g_on : x.on = y.on
  rotate_left
  · have hne : x ≠ y := fun h => g_on (by rw [h])
    simp -implicitDefEqProofs [g_on, hne]
  simp -implicitDefEqProofs [g_on]
  refine callQ_of (heqDialed x.dialed y.dialed (by omega) (by omega)) ?_
  by_cases g_dialed : x.dialed = y.dialed
  rotate_left
  · have hne : x ≠ y := fun h => g_dialed (by rw [h])
    simp -implicitDefEqProofs [g_dialed, hne]
  simp -implicitDefEqProofs [g_dialed]
  have hxy : x = y := by cases x; cases y; simp_all
  simp -implicitDefEqProofs [hxy]
abbrev szLoggedSS (R : Rel) : Prop := ∀ (xs : List Logged) (l : Int), 0 ≤ l → l ≤ 1048576 → lnS lnLogged xs → R [.sl 1 8 xs.length (xs.flatMap eLogged), I l] [] (I (szl (sumF szLogged xs) l)) []
theorem szLoggedS_b (D : Dn) (hsz : szLoggedS (D 64)) : szLoggedSS (Body D slaws_szLoggedS) := by
  intro xs l h1 h2 hln
  have h3 := hln.1
  unfold maxLen at h3
  have hw : IntKind.i64.wrap (l - (xs.length : Int)) = l - xs.length := wrap_id (by omega) (by omega)
  by_cases h : l < (xs.length : Int)
  · have h' : l - (xs.length : Int) < 0 := by omega
    have e2 : szl (sumF szLogged xs) l = -1 := by unfold szl sumF; rw [if_pos (by omega)]
    simp -implicitDefEqProofs [hw, h', e2]
  · have h' : ¬ l - (xs.length : Int) < 0 := by omega
    simp -implicitDefEqProofs [hw, h']
    refine swp_loop (fun k s => ∃ j, j + k = xs.length ∧ ((xs.take j).map szLogged).sum + xs.length ≤ l ∧ s = ⟨[.sl 1 8 xs.length (xs.flatMap eLogged), .sc (.int .i64 (l - xs.length - ((((xs.take j).map szLogged).sum : Nat) : Int))), .undef, .sc (.int .i64 j), .undef, .undef, .undef], []⟩) ?_ xs.length _ ⟨0, by simp, by simp; omega, by simp⟩
    intro k s ⟨j, hj, hp, hs⟩
    subst hs
    by_cases hjn : j < xs.length
    · have hw : IntKind.i64.wrap ((j : Int) + 1) = (j + 1 : Nat) := by rw [wrap_id (by omega) (by omega)]; simp
      have ht := sum_take (f := szLogged) hjn
      have htl := sum_take_le (f := szLogged) (xs := xs) (j := j + 1)
      simp -implicitDefEqProofs [hjn, -List.map_take]
      refine callQ_of (hsz xs[j] _ (by omega) (by omega) (hln.2 j hjn)) ?_
      by_cases he : l - xs.length - ((((xs.take j).map szLogged).sum : Nat) : Int) < szLogged xs[j]
      · have e1 : szl (szLogged xs[j]) (l - xs.length - ((((xs.take j).map szLogged).sum : Nat) : Int)) = -1 := by unfold szl; rw [if_pos he]
        have e2 : szl (sumF szLogged xs) l = -1 := by unfold szl sumF; rw [if_pos (by omega)]
        simp -implicitDefEqProofs [e1, e2, -List.map_take]
      · have e1 : szl (szLogged xs[j]) (l - xs.length - ((((xs.take j).map szLogged).sum : Nat) : Int)) = l - xs.length - ((((xs.take j).map szLogged).sum : Nat) : Int) - szLogged xs[j] := by unfold szl; rw [if_neg he]
        have e3 : ¬ l - xs.length - ((((xs.take j).map szLogged).sum : Nat) : Int) - szLogged xs[j] < 0 := by omega
        simp -implicitDefEqProofs [e1, e3, -List.map_take]
        refine ⟨k - 1, by omega, j + 1, by omega, by omega, ?_, by simp [hw]⟩
        rw [ht]; omega
    · have hsm := sum_all (f := szLogged) (xs := xs) (j := j) (by omega)
      have e2 : szl (sumF szLogged xs) l = l - xs.length - ((((xs.take j).map szLogged).sum : Nat) : Int) := by unfold szl sumF; rw [if_neg (by omega)]; omega
      simp -implicitDefEqProofs [hjn, e2, -List.map_take]
abbrev toLoggedSS (R : Rel) : Prop := ∀ xs : List Logged, sumF szLogged xs ≤ 1048576 → R [.sl 1 8 xs.length (xs.flatMap eLogged)] [] (.sl 0 8 xs.length (xs.flatMap eLogged)) []
theorem toLoggedS_b (D : Dn) (hto : toLoggedS (D 100)) : toLoggedSS (Body D slaws_toLoggedS) := by
  intro xs h
  have hlen := size_len (f := szLogged) (xs := xs)
  have h1 : ((xs.length : Nat) : Int) * 96 ≤ 1099511627776 := by omega
  simp -implicitDefEqProofs [h1]
  refine swp_loop (fun k s => ∃ j o1 o2, j + k = xs.length ∧ s = ⟨[.sl 1 8 xs.length (xs.flatMap eLogged), .undef, .arr 0, .sc (.int .i64 j), .undef], [.arr 8 0 xs.length ((mix (⟨0, 0, false, ⟨⟨false, 0, []⟩, 0, []⟩⟩ : Logged) xs j).flatMap eLogged), o1, o2]⟩) ?_ xs.length _ ⟨0, .free, .free, by simp, by simp [mix_zero]; exact rep_flat (f := eLogged) (⟨0, 0, false, ⟨⟨false, 0, []⟩, 0, []⟩⟩ : Logged) _⟩
  intro k s ⟨j, o1, o2, hj, hs⟩
  subst hs
  by_cases hjn : j < xs.length
  · have hw : IntKind.i64.wrap ((j : Int) + 1) = (j + 1 : Nat) := by rw [wrap_id (by omega) (by omega)]; simp
    have hsz := size_at (f := szLogged) hjn
    have hfit : j * 8 + 8 ≤ xs.length * 8 := by omega
    have hjl : j ≤ xs.length := by omega
    simp -implicitDefEqProofs [hjn]
    refine callQ_of (hto xs[j] (by omega)) ?_
    simp -implicitDefEqProofs [hjn, hfit, hjl]
    exact ⟨k - 1, by omega, j + 1, by omega, by simp [hw], by rw [← mix_set hjn]⟩
  · have hje : mix (⟨0, 0, false, ⟨⟨false, 0, []⟩, 0, []⟩⟩ : Logged) xs j = xs := mix_all (by omega)
    simp -implicitDefEqProofs [hjn, hje]
abbrev eqLoggedSS (R : Rel) : Prop := ∀ xs ys : List Logged, sumF szLogged xs ≤ 2 ^ 40 → sumF szLogged ys ≤ 2 ^ 40 → R [.sl 1 8 xs.length (xs.flatMap eLogged), .sl 1 8 ys.length (ys.flatMap eLogged)] [] (B (decide (xs = ys))) []
theorem eqLoggedS_b (D : Dn) (heq : eqLoggedS (D 136)) : eqLoggedSS (Body D slaws_eqLoggedS) := by
  intro xs ys h1 h2
  have hlen := size_len (f := szLogged) (xs := xs)
  by_cases hl : xs.length = ys.length
  · have hl' : (xs.length : Int) = ys.length := by omega
    simp -implicitDefEqProofs [hl']
    refine swp_loop (fun k s => ∃ j, j + k = xs.length ∧ xs.take j = ys.take j ∧ s = ⟨[.sl 1 8 xs.length (xs.flatMap eLogged), .sl 1 8 ys.length (ys.flatMap eLogged), .undef, .sc (.int .i64 j), .undef, .undef, .undef], []⟩) ?_ xs.length _ ⟨0, by simp, by simp, by simp⟩
    intro k s ⟨j, hj, hp, hs⟩
    subst hs
    by_cases hjn : j < xs.length
    · have hw : IntKind.i64.wrap ((j : Int) + 1) = (j + 1 : Nat) := by rw [wrap_id (by omega) (by omega)]; simp
      have hy : j < ys.length := by omega
      have hsx := size_at (f := szLogged) hjn
      have hsy := size_at (f := szLogged) hy
      simp -implicitDefEqProofs [hjn, hy]
      refine callQ_of (heq xs[j] ys[j] (by omega) (by omega)) ?_
      by_cases he : xs[j] = ys[j]
      · simp -implicitDefEqProofs [he]
        exact ⟨k - 1, by omega, j + 1, by omega, take_step hjn hy hp he, by simp [hw]⟩
      · have hne : xs ≠ ys := fun h => he (by simp [h])
        simp -implicitDefEqProofs [he, hne]
    · obtain rfl : xs = ys := take_all (by omega) hl hp
      simp -implicitDefEqProofs [hjn]
  · have hl' : ¬ (xs.length : Int) = ys.length := by omega
    have : xs ≠ ys := fun h => hl (by rw [h])
    simp -implicitDefEqProofs [hl', this]
end Go.Eng.T

namespace Go.Eng.T
set_option maxRecDepth 20000
abbrev szWorldS (R : Rel) : Prop := ∀ (x : World) (l : Int), 0 ≤ l → l ≤ 1048576 → lnWorld x → R [arg (eWorld x), I l] [] (I (szl (szWorld x) l)) []
theorem szWorld_b (D : Dn) (hszIntS : szIntSS (D 16)) (hszEndpointS : szEndpointSS (D 17)) (hszRollout : szRolloutS (D 18)) (hszDialedS : szDialedSS (D 19)) (hszLoggedS : szLoggedSS (D 20)) : szWorldS (Body D slaws_szWorld) := by
  intro x l hl1 hl2 hln
  simp only [lnWorld] at hln
  simp -implicitDefEqProofs
  refine callQ_of (hszIntS x.server (l) (by omega) (by omega) hln.1) ?_
  by_cases g0 : l < ((x.server.length : Nat) : Int)
  · have gg : l < ((szWorld x : Nat) : Int) := by simp only [szWorld]; omega
    have e1 : szl (x.server.length) (l) = -1 := by unfold szl; rw [if_pos g0]
    have e2 : szl (szWorld x) l = -1 := by unfold szl; rw [if_pos gg]
    simp -implicitDefEqProofs [e1, e2]
  have e3 : szl (x.server.length) (l) = l - ((x.server.length : Nat) : Int) := by unfold szl; rw [if_neg g0]
  have p0 : ¬ l - ((x.server.length : Nat) : Int) < 0 := by omega
  simp -implicitDefEqProofs [e3, p0]
  refine callQ_of (hszIntS x.tags (l - ((x.server.length : Nat) : Int)) (by omega) (by omega) hln.2.1) ?_
  by_cases g1 : l - ((x.server.length : Nat) : Int) < ((x.tags.length : Nat) : Int)
  · have gg : l < ((szWorld x : Nat) : Int) := by simp only [szWorld]; omega
    have e1 : szl (x.tags.length) (l - ((x.server.length : Nat) : Int)) = -1 := by unfold szl; rw [if_pos g1]
    have e2 : szl (szWorld x) l = -1 := by unfold szl; rw [if_pos gg]
    simp -implicitDefEqProofs [e1, e2]
  have e4 : szl (x.tags.length) (l - ((x.server.length : Nat) : Int)) = l - ((x.server.length : Nat) : Int) - ((x.tags.length : Nat) : Int) := by unfold szl; rw [if_neg g1]
  have p1 : ¬ l - ((x.server.length : Nat) : Int) - ((x.tags.length : Nat) : Int) < 0 := by omega
  simp -implicitDefEqProofs [e4, p1]
  refine callQ_of (hszEndpointS x.ends (l - ((x.server.length : Nat) : Int) - ((x.tags.length : Nat) : Int)) (by omega) (by omega) hln.2.2.1) ?_
  by_cases g2 : l - ((x.server.length : Nat) : Int) - ((x.tags.length : Nat) : Int) < ((sumF szEndpoint x.ends : Nat) : Int)
  · have gg : l < ((szWorld x : Nat) : Int) := by simp only [szWorld]; omega
    have e1 : szl (sumF szEndpoint x.ends) (l - ((x.server.length : Nat) : Int) - ((x.tags.length : Nat) : Int)) = -1 := by unfold szl; rw [if_pos g2]
    have e2 : szl (szWorld x) l = -1 := by unfold szl; rw [if_pos gg]
    simp -implicitDefEqProofs [e1, e2]
  have e5 : szl (sumF szEndpoint x.ends) (l - ((x.server.length : Nat) : Int) - ((x.tags.length : Nat) : Int)) = l - ((x.server.length : Nat) : Int) - ((x.tags.length : Nat) : Int) - ((sumF szEndpoint x.ends : Nat) : Int) := by unfold szl; rw [if_neg g2]
  have p2 : ¬ l - ((x.server.length : Nat) : Int) - ((x.tags.length : Nat) : Int) - ((sumF szEndpoint x.ends : Nat) : Int) < 0 := by omega
  simp -implicitDefEqProofs [e5, p2]
  refine callQ_of (hszRollout x.rollout (l - ((x.server.length : Nat) : Int) - ((x.tags.length : Nat) : Int) - ((sumF szEndpoint x.ends : Nat) : Int)) (by omega) (by omega) hln.2.2.2.1) ?_
  by_cases g3 : l - ((x.server.length : Nat) : Int) - ((x.tags.length : Nat) : Int) - ((sumF szEndpoint x.ends : Nat) : Int) < ((szRollout x.rollout : Nat) : Int)
  · have gg : l < ((szWorld x : Nat) : Int) := by simp only [szWorld]; omega
    have e1 : szl (szRollout x.rollout) (l - ((x.server.length : Nat) : Int) - ((x.tags.length : Nat) : Int) - ((sumF szEndpoint x.ends : Nat) : Int)) = -1 := by unfold szl; rw [if_pos g3]
    have e2 : szl (szWorld x) l = -1 := by unfold szl; rw [if_pos gg]
    simp -implicitDefEqProofs [e1, e2]
  have e6 : szl (szRollout x.rollout) (l - ((x.server.length : Nat) : Int) - ((x.tags.length : Nat) : Int) - ((sumF szEndpoint x.ends : Nat) : Int)) = l - ((x.server.length : Nat) : Int) - ((x.tags.length : Nat) : Int) - ((sumF szEndpoint x.ends : Nat) : Int) - ((szRollout x.rollout : Nat) : Int) := by unfold szl; rw [if_neg g3]
  have p3 : ¬ l - ((x.server.length : Nat) : Int) - ((x.tags.length : Nat) : Int) - ((sumF szEndpoint x.ends : Nat) : Int) - ((szRollout x.rollout : Nat) : Int) < 0 := by omega
  simp -implicitDefEqProofs [e6, p3]
  refine callQ_of (hszDialedS x.stage (l - ((x.server.length : Nat) : Int) - ((x.tags.length : Nat) : Int) - ((sumF szEndpoint x.ends : Nat) : Int) - ((szRollout x.rollout : Nat) : Int)) (by omega) (by omega) hln.2.2.2.2.1) ?_
  by_cases g4 : l - ((x.server.length : Nat) : Int) - ((x.tags.length : Nat) : Int) - ((sumF szEndpoint x.ends : Nat) : Int) - ((szRollout x.rollout : Nat) : Int) < ((sumF szDialed x.stage : Nat) : Int)
  · have gg : l < ((szWorld x : Nat) : Int) := by simp only [szWorld]; omega
    have e1 : szl (sumF szDialed x.stage) (l - ((x.server.length : Nat) : Int) - ((x.tags.length : Nat) : Int) - ((sumF szEndpoint x.ends : Nat) : Int) - ((szRollout x.rollout : Nat) : Int)) = -1 := by unfold szl; rw [if_pos g4]
    have e2 : szl (szWorld x) l = -1 := by unfold szl; rw [if_pos gg]
    simp -implicitDefEqProofs [e1, e2]
  have e7 : szl (sumF szDialed x.stage) (l - ((x.server.length : Nat) : Int) - ((x.tags.length : Nat) : Int) - ((sumF szEndpoint x.ends : Nat) : Int) - ((szRollout x.rollout : Nat) : Int)) = l - ((x.server.length : Nat) : Int) - ((x.tags.length : Nat) : Int) - ((sumF szEndpoint x.ends : Nat) : Int) - ((szRollout x.rollout : Nat) : Int) - ((sumF szDialed x.stage : Nat) : Int) := by unfold szl; rw [if_neg g4]
  have p4 : ¬ l - ((x.server.length : Nat) : Int) - ((x.tags.length : Nat) : Int) - ((sumF szEndpoint x.ends : Nat) : Int) - ((szRollout x.rollout : Nat) : Int) - ((sumF szDialed x.stage : Nat) : Int) < 0 := by omega
  simp -implicitDefEqProofs [e7, p4]
  refine callQ_of (hszLoggedS x.log (l - ((x.server.length : Nat) : Int) - ((x.tags.length : Nat) : Int) - ((sumF szEndpoint x.ends : Nat) : Int) - ((szRollout x.rollout : Nat) : Int) - ((sumF szDialed x.stage : Nat) : Int)) (by omega) (by omega) hln.2.2.2.2.2) ?_
  by_cases g5 : l - ((x.server.length : Nat) : Int) - ((x.tags.length : Nat) : Int) - ((sumF szEndpoint x.ends : Nat) : Int) - ((szRollout x.rollout : Nat) : Int) - ((sumF szDialed x.stage : Nat) : Int) < ((sumF szLogged x.log : Nat) : Int)
  · have gg : l < ((szWorld x : Nat) : Int) := by simp only [szWorld]; omega
    have e1 : szl (sumF szLogged x.log) (l - ((x.server.length : Nat) : Int) - ((x.tags.length : Nat) : Int) - ((sumF szEndpoint x.ends : Nat) : Int) - ((szRollout x.rollout : Nat) : Int) - ((sumF szDialed x.stage : Nat) : Int)) = -1 := by unfold szl; rw [if_pos g5]
    have e2 : szl (szWorld x) l = -1 := by unfold szl; rw [if_pos gg]
    simp -implicitDefEqProofs [e1, e2]
  have e8 : szl (sumF szLogged x.log) (l - ((x.server.length : Nat) : Int) - ((x.tags.length : Nat) : Int) - ((sumF szEndpoint x.ends : Nat) : Int) - ((szRollout x.rollout : Nat) : Int) - ((sumF szDialed x.stage : Nat) : Int)) = l - ((x.server.length : Nat) : Int) - ((x.tags.length : Nat) : Int) - ((sumF szEndpoint x.ends : Nat) : Int) - ((szRollout x.rollout : Nat) : Int) - ((sumF szDialed x.stage : Nat) : Int) - ((sumF szLogged x.log : Nat) : Int) := by unfold szl; rw [if_neg g5]
  have p5 : ¬ l - ((x.server.length : Nat) : Int) - ((x.tags.length : Nat) : Int) - ((sumF szEndpoint x.ends : Nat) : Int) - ((szRollout x.rollout : Nat) : Int) - ((sumF szDialed x.stage : Nat) : Int) - ((sumF szLogged x.log : Nat) : Int) < 0 := by omega
  simp -implicitDefEqProofs [e8, p5]
  have gg : ¬ l < ((szWorld x : Nat) : Int) := by simp only [szWorld]; omega
  unfold szl; rw [if_neg gg]; simp only [szWorld] <;> omega
abbrev toWorldS (R : Rel) : Prop := ∀ x : World, szWorld x ≤ 1048576 → R [arg (eWorld x)] [] (.agg (eWorld x)) []
theorem toWorld_b (D : Dn) (htoIntS : toIntSS (D 31)) (htoEndpointS : toEndpointSS (D 32)) (htoRollout : toRolloutS (D 33)) (htoDialedS : toDialedSS (D 34)) (htoLoggedS : toLoggedSS (D 35)) : toWorldS (Body D slaws_toWorld) := by
  intro x h
  simp only [szWorld] at h
  simp -implicitDefEqProofs
  refine callQ_of (htoIntS x.server (by omega)) ?_
  simp -implicitDefEqProofs
  refine callQ_of (htoIntS x.tags (by omega)) ?_
  simp -implicitDefEqProofs
  refine callQ_of (htoEndpointS x.ends (by omega)) ?_
  simp -implicitDefEqProofs
  refine callQ_of (htoRollout x.rollout (by omega)) ?_
  simp -implicitDefEqProofs
  refine callQ_of (htoDialedS x.stage (by omega)) ?_
  simp -implicitDefEqProofs
  refine callQ_of (htoLoggedS x.log (by omega)) ?_
  simp -implicitDefEqProofs
abbrev eqWorldS (R : Rel) : Prop := ∀ x y : World, szWorld x ≤ 2 ^ 40 → szWorld y ≤ 2 ^ 40 → R [arg (eWorld x), arg (eWorld y)] [] (B (decide (x = y))) []
theorem eqWorld_b (D : Dn) (heqIntS : eqIntSS (D 47)) (heqEndpointS : eqEndpointSS (D 48)) (heqRollout : eqRolloutS (D 49)) (heqDialedS : eqDialedSS (D 50)) (heqLoggedS : eqLoggedSS (D 51)) : eqWorldS (Body D slaws_eqWorld) := by
  intro x y h1 h2
  simp only [szWorld] at h1 h2
  simp -implicitDefEqProofs
  refine callQ_of (heqIntS x.server y.server (by unfold maxLen; omega) (by unfold maxLen; omega)) ?_
  by_cases g_server : x.server = y.server
  rotate_left
  · have hne : x ≠ y := fun h => g_server (by rw [h])
    simp -implicitDefEqProofs [g_server, hne]
  simp -implicitDefEqProofs [g_server]
  refine callQ_of (heqIntS x.tags y.tags (by unfold maxLen; omega) (by unfold maxLen; omega)) ?_
  by_cases g_tags : x.tags = y.tags
  rotate_left
  · have hne : x ≠ y := fun h => g_tags (by rw [h])
    simp -implicitDefEqProofs [g_tags, hne]
  simp -implicitDefEqProofs [g_tags]
  by_cases g_key : x.key = y.key
  rotate_left
  · have hne : x ≠ y := fun h => g_key (by rw [h])
    simp -implicitDefEqProofs [g_key, hne]
  simp -implicitDefEqProofs [g_key]
  refine callQ_of (heqEndpointS x.ends y.ends (by omega) (by omega)) ?_
  by_cases g_ends : x.ends = y.ends
  rotate_left
  · have hne : x ≠ y := fun h => g_ends (by rw [h])
    simp -implicitDefEqProofs [g_ends, hne]
  simp -implicitDefEqProofs [g_ends]
  refine callQ_of (heqRollout x.rollout y.rollout (by omega) (by omega)) ?_
  by_cases g_rollout : x.rollout = y.rollout
  rotate_left
  · have hne : x ≠ y := fun h => g_rollout (by rw [h])
    simp -implicitDefEqProofs [g_rollout, hne]
  simp -implicitDefEqProofs [g_rollout]
  by_cases g_least : x.least = y.least
  rotate_left
  · have hne : x ≠ y := fun h => g_least (by rw [h])
    simp -implicitDefEqProofs [g_least, hne]
  simp -implicitDefEqProofs [g_least]
  by_cases g_percent : x.percent = y.percent
  rotate_left
  · have hne : x ≠ y := fun h => g_percent (by rw [h])
    simp -implicitDefEqProofs [g_percent, hne]
  simp -implicitDefEqProofs [g_percent]
  refine callQ_of (heqDialedS x.stage y.stage (by omega) (by omega)) ?_
  by_cases g_stage : x.stage = y.stage
  rotate_left
  · have hne : x ≠ y := fun h => g_stage (by rw [h])
    simp -implicitDefEqProofs [g_stage, hne]
  simp -implicitDefEqProofs [g_stage]
  refine callQ_of (heqLoggedS x.log y.log (by omega) (by omega)) ?_
  by_cases g_log : x.log = y.log
  rotate_left
  · have hne : x ≠ y := fun h => g_log (by rw [h])
    simp -implicitDefEqProofs [g_log, hne]
  simp -implicitDefEqProofs [g_log]
  by_cases g_now : x.now = y.now
  rotate_left
  · have hne : x ≠ y := fun h => g_now (by rw [h])
    simp -implicitDefEqProofs [g_now, hne]
  simp -implicitDefEqProofs [g_now]
  by_cases g_hurt : x.hurt = y.hurt
  rotate_left
  · have hne : x ≠ y := fun h => g_hurt (by rw [h])
    simp -implicitDefEqProofs [g_hurt, hne]
  simp -implicitDefEqProofs [g_hurt]
  by_cases g_reached : x.reached = y.reached
  rotate_left
  · have hne : x ≠ y := fun h => g_reached (by rw [h])
    simp -implicitDefEqProofs [g_reached, hne]
  simp -implicitDefEqProofs [g_reached]
  have hxy : x = y := by cases x; cases y; simp_all
  simp -implicitDefEqProofs [hxy]
end Go.Eng.T

namespace Go.Eng.T

theorem not_mem_step {xs : List Int} {v : Int} {j : Nat} (h : j < xs.length) (hp : v ∉ xs.take j) (hv : ¬ xs[j] = v) : v ∉ xs.take (j + 1) := by
  rw [List.take_add_one, List.getElem?_eq_getElem h]
  intro hm
  rcases List.mem_append.1 hm with hm | hm
  · exact hp hm
  · simp at hm; exact hv hm.symm
theorem not_mem_all {xs : List Int} {v : Int} {j : Nat} (h : xs.length ≤ j) (hp : v ∉ xs.take j) : v ∉ xs := by rwa [List.take_of_length_le h] at hp
theorem mem_here {xs : List Int} {v : Int} {j : Nat} (h : j < xs.length) (hv : xs[j] = v) : v ∈ xs := by rw [← hv]; exact List.getElem_mem h

/-- where v stands first, or -1 -/
def idxI (xs : List Int) (v : Int) : Int := if v ∈ xs then (xs.idxOf v : Nat) else -1
theorem idxI_hit {xs : List Int} {v : Int} {j : Nat} (h : j < xs.length) (hp : v ∉ xs.take j) (hv : xs[j] = v) : idxI xs v = j := by
  unfold idxI
  rw [if_pos (mem_here h hv)]
  congr 1
  have e : xs = xs.take j ++ v :: xs.drop (j + 1) := by
    conv => lhs; rw [← List.take_append_drop j xs, List.drop_eq_getElem_cons h, hv]
  rw [e, List.idxOf_append, if_neg hp]
  simp
  omega
theorem idxI_ge {xs : List Int} {v : Int} : (0 ≤ idxI xs v) = (v ∈ xs) := by
  unfold idxI
  by_cases h : v ∈ xs <;> simp [h]

abbrev IndexS (R : Rel) : Prop := ∀ (xs : List Int) (v : Int), xs.length ≤ maxLen → R [.sl 1 1 xs.length (ints xs), I v] [] (I (idxI xs v)) []
theorem Index_b (D : Dn) : IndexS (Body D sslices_Index___int_int_) := by
  intro xs v hl
  unfold maxLen at hl
  simp -implicitDefEqProofs
  refine swp_loop (fun k s => ∃ j, j + k = xs.length ∧ v ∉ xs.take j ∧ s = ⟨[.sl 1 1 xs.length (ints xs), .sc (.int .i64 v), .undef, .undef, .sc (.int .i64 xs.length), .sc (.int .i64 j), .undef, .undef], []⟩) ?_ xs.length _ ⟨0, by simp, by simp, by simp⟩
  intro k s ⟨j, hj, hp, hs⟩
  subst hs
  by_cases hjn : j < xs.length
  · have hw : IntKind.i64.wrap ((j : Int) + 1) = (j + 1 : Nat) := by rw [wrap_id (by omega) (by omega)]; simp
    by_cases he : v = xs[j]
    · have hx := idxI_hit hjn hp he.symm
      simp -implicitDefEqProofs [hjn, ← he, hx]
    · simp -implicitDefEqProofs [hjn, he]
      exact ⟨k - 1, by omega, j + 1, by omega, not_mem_step hjn hp (fun h => he h.symm), by simp [hw]⟩
  · have hx : idxI xs v = -1 := by unfold idxI; rw [if_neg (not_mem_all (by omega) hp)]
    simp -implicitDefEqProofs [hjn, hx]

abbrev HasS (R : Rel) : Prop := ∀ (xs : List Int) (v : Int), xs.length ≤ maxLen → R [.sl 1 1 xs.length (ints xs), I v] [] (B (decide (v ∈ xs))) []
theorem Contains_b (D : Dn) (hI : IndexS (D 389)) : HasS (Body D sslices_Contains___int_int_) := by
  intro xs v hl
  simp -implicitDefEqProofs
  refine callQ_of (hI xs v hl) ?_
  simp -implicitDefEqProofs [idxI_ge]
theorem l9Has_b (D : Dn) : HasS (Body D sspec_l9Has) := by
  intro xs v hl
  unfold maxLen at hl
  simp -implicitDefEqProofs
  refine swp_loop (fun k s => ∃ j, j + k = xs.length ∧ v ∉ xs.take j ∧ s = ⟨[.sl 1 1 xs.length (ints xs), .sc (.int .i64 v), .undef, .sc (.int .i64 j), .undef, .undef], []⟩) ?_ xs.length _ ⟨0, by simp, by simp, by simp⟩
  intro k s ⟨j, hj, hp, hs⟩
  subst hs
  by_cases hjn : j < xs.length
  · have hw : IntKind.i64.wrap ((j : Int) + 1) = (j + 1 : Nat) := by rw [wrap_id (by omega) (by omega)]; simp
    by_cases he : xs[j] = v
    · have hx := mem_here hjn he
      simp -implicitDefEqProofs [hjn, he, hx]
    · simp -implicitDefEqProofs [hjn, he]
      exact ⟨k - 1, by omega, j + 1, by omega, not_mem_step hjn hp he, by simp [hw]⟩
  · have hx := not_mem_all (by omega) hp
    simp -implicitDefEqProofs [hjn, hx]

/-- a dial that says that the version did not come through -/
def badD (v : Int) (d : Dialed) : Bool := !d.deal.ok || (decide (d.deal.version < v) && decide (v ∈ d.up))
def goodD (v : Int) (d : Dialed) : Bool := !badD v d && decide (v ≤ d.deal.version)
def cntF {α : Type} (f : α → Bool) (xs : List α) : Nat := (xs.filter f).length
theorem cnt_step {α : Type} {f : α → Bool} {xs : List α} {j : Nat} (h : j < xs.length) : cntF f (xs.take (j + 1)) = cntF f (xs.take j) + (if f xs[j] then 1 else 0) := by
  unfold cntF
  rw [List.take_add_one, List.getElem?_eq_getElem h, List.filter_append, List.length_append]
  congr 1
  by_cases hf : f xs[j] <;> simp [hf]
theorem cnt_le {α : Type} {f : α → Bool} {xs : List α} {j : Nat} (h : j ≤ xs.length) : cntF f (xs.take j) ≤ j := by
  unfold cntF
  have := List.length_filter_le f (xs.take j)
  simp at this
  omega
theorem cnt_all {α : Type} {f : α → Bool} {xs : List α} {j : Nat} (h : xs.length ≤ j) : cntF f (xs.take j) = cntF f xs := by rw [List.take_of_length_le h]

abbrev CountKindS (R : Rel) : Prop := ∀ (xs : List Event) (v : Int), xs.length ≤ maxLen → R [.sl 1 6 xs.length (xs.flatMap eEvent), I v] [] (I (cntF (fun e => decide (e.kind = v)) xs)) []
end Go.Eng.T

namespace Go.Eng.T

/-- the numbers from k on -/
def nums : Nat → Int → List Int
  | 0, _ => []
  | n + 1, k => k :: nums n (k + 1)
@[simp] theorem nums_len : ∀ (n : Nat) (k : Int), (nums n k).length = n
  | 0, _ => rfl
  | n + 1, k => by simp [nums, nums_len n]
theorem nums_get : ∀ (n : Nat) (k : Int) (j : Nat) (h : j < (nums n k).length), (nums n k)[j] = k + j
  | 0, k, j, h => by simp [nums] at h
  | n + 1, k, 0, h => by simp [nums]
  | n + 1, k, j + 1, h => by
    simp only [nums, List.getElem_cons_succ]
    rw [nums_get n (k + 1) j (by simpa [nums] using h)]
    simp; omega

/-- a row marked element by element -/
def mkL {α : Type} (mc : α → Nat) (mk : α → Int → α) : List α → Int → List α
  | [], _ => []
  | x :: r, k => mk x k :: mkL mc mk r (k + mc x)
def mcL {α : Type} (mc : α → Nat) (xs : List α) : Nat := (xs.map mc).sum
section
variable {α : Type} {mc : α → Nat} {mk : α → Int → α}
@[simp] theorem mkL_len : ∀ (xs : List α) (k : Int), (mkL mc mk xs k).length = xs.length
  | [], _ => rfl
  | x :: r, k => by simp [mkL, mkL_len r]
theorem mkL_get : ∀ (xs : List α) (k : Int) (j : Nat) (h : j < xs.length), (mkL mc mk xs k)[j]'(by simpa using h) = mk xs[j] (k + (mcL mc (xs.take j) : Nat))
  | [], k, j, h => by simp at h
  | x :: r, k, 0, h => by simp [mkL, mcL]
  | x :: r, k, j + 1, h => by
    simp only [mkL, List.getElem_cons_succ]
    rw [mkL_get r (k + mc x) j (by simpa using h)]
    simp [mcL]; congr 1; omega
theorem mkL_append (ys : List α) : ∀ (xs : List α) (k : Int), mkL mc mk (xs ++ ys) k = mkL mc mk xs k ++ mkL mc mk ys (k + (mcL mc xs : Nat))
  | [], k => by simp [mkL, mcL]
  | x :: r, k => by
    simp only [List.cons_append, mkL, mkL_append ys r]
    simp [mcL]; congr 1; omega
/-- under way -/
def mkJ (mc : α → Nat) (mk : α → Int → α) (xs : List α) (k : Int) (j : Nat) : List α := mkL mc mk (xs.take j) k ++ xs.drop j
theorem mkJ_zero {xs : List α} {k : Int} : mkJ mc mk xs k 0 = xs := by simp [mkJ, mkL]
theorem mkJ_all {xs : List α} {k : Int} {j : Nat} (h : xs.length ≤ j) : mkJ mc mk xs k j = mkL mc mk xs k := by simp [mkJ, List.take_of_length_le h, List.drop_eq_nil_of_le h]
@[simp] theorem mkJ_len {xs : List α} {k : Int} {j : Nat} (h : j ≤ xs.length) : (mkJ mc mk xs k j).length = xs.length := by simp [mkJ]; omega
theorem mkJ_get {xs : List α} {k : Int} {j : Nat} (h : j < xs.length) : (mkJ mc mk xs k j)[j]'(by rw [mkJ_len (by omega)]; exact h) = xs[j] := by
  unfold mkJ
  have hl : (mkL mc mk (xs.take j) k).length = j := by simp; omega
  rw [List.getElem_append_right (by omega)]
  simp [hl]
theorem mkJ_set {xs : List α} {k : Int} {j : Nat} (h : j < xs.length) : (mkJ mc mk xs k j).set j (mk xs[j] (k + (mcL mc (xs.take j) : Nat))) = mkJ mc mk xs k (j + 1) := by
  unfold mkJ
  have hl : (mkL mc mk (xs.take j) k).length = j := by simp; omega
  have ht : xs.take (j + 1) = xs.take j ++ [xs[j]] := by simp
  rw [List.set_append_right _ _ (by omega), hl, Nat.sub_self, ht, mkL_append, List.drop_eq_getElem_cons h, List.set_cons_zero, List.append_assoc]
  rfl
theorem mcL_step {xs : List α} {j : Nat} (h : j < xs.length) : mcL mc (xs.take (j + 1)) = mcL mc (xs.take j) + mc xs[j] := sum_take h
theorem mcL_le {xs : List α} {j : Nat} : mcL mc (xs.take j) ≤ mcL mc xs := sum_take_le
theorem mcL_all {xs : List α} {j : Nat} (h : xs.length ≤ j) : mcL mc (xs.take j) = mcL mc xs := sum_all h
theorem mcL_ge (h : ∀ x, 1 ≤ mc x) (xs : List α) : xs.length ≤ mcL mc xs := by
  induction xs with
  | nil => simp
  | cons x r ih =>
    have := h x
    simp [mcL] at *
    omega
end
theorem set_flat {α : Type} {f : α → List V} {e : Nat} (hf : ∀ x, (f x).length = e) {o : Nat} (ho : o < e) {v : V} {y : α} : ∀ {xs : List α} {j : Nat} (h : j < xs.length), f y = (f xs[j]).set o v → (xs.flatMap f).set (j * e + o) v = (xs.set j y).flatMap f
  | [], j, h, _ => by simp at h
  | x :: xs, 0, _, hy => by
    simp only [List.flatMap_cons, List.set_cons_zero, Nat.zero_mul, Nat.zero_add]
    rw [List.set_append_left _ _ (by rw [hf]; exact ho), hy]
    rfl
  | x :: xs, j + 1, h, hy => by
    simp only [List.flatMap_cons, List.set_cons_succ]
    have e1 : (j + 1) * e + o = (f x).length + (j * e + o) := by rw [hf, Nat.add_mul]; omega
    rw [e1, List.set_append_right _ _ (by omega), Nat.add_sub_cancel_left, set_flat hf ho (by simpa using h) (by simpa using hy)]
@[simp high] theorem eBox_s0 {xs : List Box} {j : Nat} (h : j < xs.length) (a : Int) : (xs.flatMap eBox).set (j * 4) (.sc (.int .i64 a)) = (xs.set j ⟨a, xs[j].drops, xs[j].strips, xs[j].lists⟩).flatMap eBox := set_flat (o := 0) eBox_len (by omega) h rfl
@[simp high] theorem eBox_s1 {xs : List Box} {j : Nat} (h : j < xs.length) {n : Nat} (a : List Int) (hn : n = a.length) : (xs.flatMap eBox).set (j * 4 + 1) (.sl 0 1 n (ints a)) = (xs.set j ⟨xs[j].limit, a, xs[j].strips, xs[j].lists⟩).flatMap eBox := by subst hn; exact set_flat (o := 1) eBox_len (by omega) h rfl
@[simp high] theorem eBox_s2 {xs : List Box} {j : Nat} (h : j < xs.length) {n : Nat} (a : List Int) (hn : n = a.length) : (xs.flatMap eBox).set (j * 4 + 2) (.sl 0 1 n (ints a)) = (xs.set j ⟨xs[j].limit, xs[j].drops, a, xs[j].lists⟩).flatMap eBox := by subst hn; exact set_flat (o := 2) eBox_len (by omega) h rfl
@[simp high] theorem eBox_s3 {xs : List Box} {j : Nat} (h : j < xs.length) (a : Bool) : (xs.flatMap eBox).set (j * 4 + 3) (.sc (.bool a)) = (xs.set j ⟨xs[j].limit, xs[j].drops, xs[j].strips, a⟩).flatMap eBox := set_flat (o := 3) eBox_len (by omega) h rfl
@[simp high] theorem eDialed_s0 {xs : List Dialed} {j : Nat} (h : j < xs.length) (a : Bool) : (xs.flatMap eDialed).set (j * 5) (.sc (.bool a)) = (xs.set j ⟨⟨a, xs[j].deal.version, xs[j].deal.tags⟩, xs[j].tries, xs[j].up⟩).flatMap eDialed := set_flat (o := 0) eDialed_len (by omega) h rfl
@[simp high] theorem eDialed_s1 {xs : List Dialed} {j : Nat} (h : j < xs.length) (a : Int) : (xs.flatMap eDialed).set (j * 5 + 1) (.sc (.int .i64 a)) = (xs.set j ⟨⟨xs[j].deal.ok, a, xs[j].deal.tags⟩, xs[j].tries, xs[j].up⟩).flatMap eDialed := set_flat (o := 1) eDialed_len (by omega) h rfl
@[simp high] theorem eDialed_s2 {xs : List Dialed} {j : Nat} (h : j < xs.length) {n : Nat} (a : List Int) (hn : n = a.length) : (xs.flatMap eDialed).set (j * 5 + 2) (.sl 0 1 n (ints a)) = (xs.set j ⟨⟨xs[j].deal.ok, xs[j].deal.version, a⟩, xs[j].tries, xs[j].up⟩).flatMap eDialed := by subst hn; exact set_flat (o := 2) eDialed_len (by omega) h rfl
@[simp high] theorem eDialed_s3 {xs : List Dialed} {j : Nat} (h : j < xs.length) (a : Int) : (xs.flatMap eDialed).set (j * 5 + 3) (.sc (.int .i64 a)) = (xs.set j ⟨⟨xs[j].deal.ok, xs[j].deal.version, xs[j].deal.tags⟩, a, xs[j].up⟩).flatMap eDialed := set_flat (o := 3) eDialed_len (by omega) h rfl
@[simp high] theorem eDialed_s4 {xs : List Dialed} {j : Nat} (h : j < xs.length) {n : Nat} (a : List Int) (hn : n = a.length) : (xs.flatMap eDialed).set (j * 5 + 4) (.sl 0 1 n (ints a)) = (xs.set j ⟨⟨xs[j].deal.ok, xs[j].deal.version, xs[j].deal.tags⟩, xs[j].tries, a⟩).flatMap eDialed := by subst hn; exact set_flat (o := 4) eDialed_len (by omega) h rfl
@[simp high] theorem eEndpoint_s0 {xs : List Endpoint} {j : Nat} (h : j < xs.length) {n : Nat} (a : List Int) (hn : n = a.length) : (xs.flatMap eEndpoint).set (j * 4) (.sl 0 1 n (ints a)) = (xs.set j ⟨a, xs[j].tags, xs[j].path, xs[j].cls⟩).flatMap eEndpoint := by subst hn; exact set_flat (o := 0) eEndpoint_len (by omega) h rfl
@[simp high] theorem eEndpoint_s1 {xs : List Endpoint} {j : Nat} (h : j < xs.length) {n : Nat} (a : List Int) (hn : n = a.length) : (xs.flatMap eEndpoint).set (j * 4 + 1) (.sl 0 1 n (ints a)) = (xs.set j ⟨xs[j].versions, a, xs[j].path, xs[j].cls⟩).flatMap eEndpoint := by subst hn; exact set_flat (o := 1) eEndpoint_len (by omega) h rfl
@[simp high] theorem eEndpoint_s2 {xs : List Endpoint} {j : Nat} (h : j < xs.length) {n : Nat} (a : List Box) (hn : n = a.length) : (xs.flatMap eEndpoint).set (j * 4 + 2) (.sl 0 4 n (a.flatMap eBox)) = (xs.set j ⟨xs[j].versions, xs[j].tags, a, xs[j].cls⟩).flatMap eEndpoint := by subst hn; exact set_flat (o := 2) eEndpoint_len (by omega) h rfl
@[simp high] theorem eEndpoint_s3 {xs : List Endpoint} {j : Nat} (h : j < xs.length) (a : Int) : (xs.flatMap eEndpoint).set (j * 4 + 3) (.sc (.int .i64 a)) = (xs.set j ⟨xs[j].versions, xs[j].tags, xs[j].path, a⟩).flatMap eEndpoint := set_flat (o := 3) eEndpoint_len (by omega) h rfl
@[simp high] theorem eLogged_s0 {xs : List Logged} {j : Nat} (h : j < xs.length) (a : Int) : (xs.flatMap eLogged).set (j * 8) (.sc (.int .i64 a)) = (xs.set j ⟨a, xs[j].tick, xs[j].on, ⟨⟨xs[j].dialed.deal.ok, xs[j].dialed.deal.version, xs[j].dialed.deal.tags⟩, xs[j].dialed.tries, xs[j].dialed.up⟩⟩).flatMap eLogged := set_flat (o := 0) eLogged_len (by omega) h rfl
@[simp high] theorem eLogged_s1 {xs : List Logged} {j : Nat} (h : j < xs.length) (a : Int) : (xs.flatMap eLogged).set (j * 8 + 1) (.sc (.int .i64 a)) = (xs.set j ⟨xs[j].fin, a, xs[j].on, ⟨⟨xs[j].dialed.deal.ok, xs[j].dialed.deal.version, xs[j].dialed.deal.tags⟩, xs[j].dialed.tries, xs[j].dialed.up⟩⟩).flatMap eLogged := set_flat (o := 1) eLogged_len (by omega) h rfl
@[simp high] theorem eLogged_s2 {xs : List Logged} {j : Nat} (h : j < xs.length) (a : Bool) : (xs.flatMap eLogged).set (j * 8 + 2) (.sc (.bool a)) = (xs.set j ⟨xs[j].fin, xs[j].tick, a, ⟨⟨xs[j].dialed.deal.ok, xs[j].dialed.deal.version, xs[j].dialed.deal.tags⟩, xs[j].dialed.tries, xs[j].dialed.up⟩⟩).flatMap eLogged := set_flat (o := 2) eLogged_len (by omega) h rfl
@[simp high] theorem eLogged_s3 {xs : List Logged} {j : Nat} (h : j < xs.length) (a : Bool) : (xs.flatMap eLogged).set (j * 8 + 3) (.sc (.bool a)) = (xs.set j ⟨xs[j].fin, xs[j].tick, xs[j].on, ⟨⟨a, xs[j].dialed.deal.version, xs[j].dialed.deal.tags⟩, xs[j].dialed.tries, xs[j].dialed.up⟩⟩).flatMap eLogged := set_flat (o := 3) eLogged_len (by omega) h rfl
@[simp high] theorem eLogged_s4 {xs : List Logged} {j : Nat} (h : j < xs.length) (a : Int) : (xs.flatMap eLogged).set (j * 8 + 4) (.sc (.int .i64 a)) = (xs.set j ⟨xs[j].fin, xs[j].tick, xs[j].on, ⟨⟨xs[j].dialed.deal.ok, a, xs[j].dialed.deal.tags⟩, xs[j].dialed.tries, xs[j].dialed.up⟩⟩).flatMap eLogged := set_flat (o := 4) eLogged_len (by omega) h rfl
@[simp high] theorem eLogged_s5 {xs : List Logged} {j : Nat} (h : j < xs.length) {n : Nat} (a : List Int) (hn : n = a.length) : (xs.flatMap eLogged).set (j * 8 + 5) (.sl 0 1 n (ints a)) = (xs.set j ⟨xs[j].fin, xs[j].tick, xs[j].on, ⟨⟨xs[j].dialed.deal.ok, xs[j].dialed.deal.version, a⟩, xs[j].dialed.tries, xs[j].dialed.up⟩⟩).flatMap eLogged := by subst hn; exact set_flat (o := 5) eLogged_len (by omega) h rfl
@[simp high] theorem eLogged_s6 {xs : List Logged} {j : Nat} (h : j < xs.length) (a : Int) : (xs.flatMap eLogged).set (j * 8 + 6) (.sc (.int .i64 a)) = (xs.set j ⟨xs[j].fin, xs[j].tick, xs[j].on, ⟨⟨xs[j].dialed.deal.ok, xs[j].dialed.deal.version, xs[j].dialed.deal.tags⟩, a, xs[j].dialed.up⟩⟩).flatMap eLogged := set_flat (o := 6) eLogged_len (by omega) h rfl
@[simp high] theorem eLogged_s7 {xs : List Logged} {j : Nat} (h : j < xs.length) {n : Nat} (a : List Int) (hn : n = a.length) : (xs.flatMap eLogged).set (j * 8 + 7) (.sl 0 1 n (ints a)) = (xs.set j ⟨xs[j].fin, xs[j].tick, xs[j].on, ⟨⟨xs[j].dialed.deal.ok, xs[j].dialed.deal.version, xs[j].dialed.deal.tags⟩, xs[j].dialed.tries, a⟩⟩).flatMap eLogged := by subst hn; exact set_flat (o := 7) eLogged_len (by omega) h rfl
@[simp high] theorem eEvent_s0 {xs : List Event} {j : Nat} (h : j < xs.length) (a : Int) : (xs.flatMap eEvent).set (j * 6) (.sc (.int .i64 a)) = (xs.set j ⟨a, xs[j].n, ⟨xs[j].box.limit, xs[j].box.drops, xs[j].box.strips, xs[j].box.lists⟩⟩).flatMap eEvent := set_flat (o := 0) eEvent_len (by omega) h rfl
@[simp high] theorem eEvent_s1 {xs : List Event} {j : Nat} (h : j < xs.length) (a : Int) : (xs.flatMap eEvent).set (j * 6 + 1) (.sc (.int .i64 a)) = (xs.set j ⟨xs[j].kind, a, ⟨xs[j].box.limit, xs[j].box.drops, xs[j].box.strips, xs[j].box.lists⟩⟩).flatMap eEvent := set_flat (o := 1) eEvent_len (by omega) h rfl
@[simp high] theorem eEvent_s2 {xs : List Event} {j : Nat} (h : j < xs.length) (a : Int) : (xs.flatMap eEvent).set (j * 6 + 2) (.sc (.int .i64 a)) = (xs.set j ⟨xs[j].kind, xs[j].n, ⟨a, xs[j].box.drops, xs[j].box.strips, xs[j].box.lists⟩⟩).flatMap eEvent := set_flat (o := 2) eEvent_len (by omega) h rfl
@[simp high] theorem eEvent_s3 {xs : List Event} {j : Nat} (h : j < xs.length) {n : Nat} (a : List Int) (hn : n = a.length) : (xs.flatMap eEvent).set (j * 6 + 3) (.sl 0 1 n (ints a)) = (xs.set j ⟨xs[j].kind, xs[j].n, ⟨xs[j].box.limit, a, xs[j].box.strips, xs[j].box.lists⟩⟩).flatMap eEvent := by subst hn; exact set_flat (o := 3) eEvent_len (by omega) h rfl
@[simp high] theorem eEvent_s4 {xs : List Event} {j : Nat} (h : j < xs.length) {n : Nat} (a : List Int) (hn : n = a.length) : (xs.flatMap eEvent).set (j * 6 + 4) (.sl 0 1 n (ints a)) = (xs.set j ⟨xs[j].kind, xs[j].n, ⟨xs[j].box.limit, xs[j].box.drops, a, xs[j].box.lists⟩⟩).flatMap eEvent := by subst hn; exact set_flat (o := 4) eEvent_len (by omega) h rfl
@[simp high] theorem eEvent_s5 {xs : List Event} {j : Nat} (h : j < xs.length) (a : Bool) : (xs.flatMap eEvent).set (j * 6 + 5) (.sc (.bool a)) = (xs.set j ⟨xs[j].kind, xs[j].n, ⟨xs[j].box.limit, xs[j].box.drops, xs[j].box.strips, a⟩⟩).flatMap eEvent := set_flat (o := 5) eEvent_len (by omega) h rfl
def mcBox (x : Box) : Nat := 1 + x.drops.length + x.strips.length + 1
def mkBox (x : Box) (k : Int) : Box := ⟨k, nums x.drops.length (k + 1), nums x.strips.length (k + 1 + ((x.drops.length : Nat) : Int)), ((k + 1 + ((x.drops.length : Nat) : Int) + ((x.strips.length : Nat) : Int)).tmod 3 == 0)⟩
def mcDialed (x : Dialed) : Nat := 1 + 1 + x.deal.tags.length + 1 + x.up.length
def mkDialed (x : Dialed) (k : Int) : Dialed := ⟨⟨((k).tmod 3 == 0), k + 1, nums x.deal.tags.length (k + 1 + 1)⟩, k + 1 + 1 + ((x.deal.tags.length : Nat) : Int), nums x.up.length (k + 1 + 1 + ((x.deal.tags.length : Nat) : Int) + 1)⟩
def mcEndpoint (x : Endpoint) : Nat := x.versions.length + x.tags.length + mcL mcBox x.path + 1
def mkEndpoint (x : Endpoint) (k : Int) : Endpoint := ⟨nums x.versions.length (k), nums x.tags.length (k + ((x.versions.length : Nat) : Int)), mkL mcBox mkBox x.path (k + ((x.versions.length : Nat) : Int) + ((x.tags.length : Nat) : Int)), k + ((x.versions.length : Nat) : Int) + ((x.tags.length : Nat) : Int) + ((mcL mcBox x.path : Nat) : Int)⟩
def mcLogged (x : Logged) : Nat := 1 + 1 + 1 + 1 + 1 + x.dialed.deal.tags.length + 1 + x.dialed.up.length
def mkLogged (x : Logged) (k : Int) : Logged := ⟨k, k + 1, ((k + 1 + 1).tmod 3 == 0), ⟨⟨((k + 1 + 1 + 1).tmod 3 == 0), k + 1 + 1 + 1 + 1, nums x.dialed.deal.tags.length (k + 1 + 1 + 1 + 1 + 1)⟩, k + 1 + 1 + 1 + 1 + 1 + ((x.dialed.deal.tags.length : Nat) : Int), nums x.dialed.up.length (k + 1 + 1 + 1 + 1 + 1 + ((x.dialed.deal.tags.length : Nat) : Int) + 1)⟩⟩
def mcEvent (x : Event) : Nat := 1 + 1 + 1 + x.box.drops.length + x.box.strips.length + 1
def mkEvent (x : Event) (k : Int) : Event := ⟨k, k + 1, ⟨k + 1 + 1, nums x.box.drops.length (k + 1 + 1 + 1), nums x.box.strips.length (k + 1 + 1 + 1 + ((x.box.drops.length : Nat) : Int)), ((k + 1 + 1 + 1 + ((x.box.drops.length : Nat) : Int) + ((x.box.strips.length : Nat) : Int)).tmod 3 == 0)⟩⟩
def mcRollout (x : Rollout) : Nat := x.stages.length
def mkRollout (x : Rollout) (k : Int) : Rollout := ⟨x.version, nums x.stages.length (k), x.pos, x.off⟩
def mcWorld (x : World) : Nat := x.server.length + x.tags.length + mcL mcEndpoint x.ends + x.rollout.stages.length + mcL mcDialed x.stage + mcL mcLogged x.log
def mkWorld (x : World) (k : Int) : World := ⟨nums x.server.length (k), nums x.tags.length (k + ((x.server.length : Nat) : Int)), x.key, mkL mcEndpoint mkEndpoint x.ends (k + ((x.server.length : Nat) : Int) + ((x.tags.length : Nat) : Int)), ⟨x.rollout.version, nums x.rollout.stages.length (k + ((x.server.length : Nat) : Int) + ((x.tags.length : Nat) : Int) + ((mcL mcEndpoint x.ends : Nat) : Int)), x.rollout.pos, x.rollout.off⟩, x.least, x.percent, mkL mcDialed mkDialed x.stage (k + ((x.server.length : Nat) : Int) + ((x.tags.length : Nat) : Int) + ((mcL mcEndpoint x.ends : Nat) : Int) + ((x.rollout.stages.length : Nat) : Int)), mkL mcLogged mkLogged x.log (k + ((x.server.length : Nat) : Int) + ((x.tags.length : Nat) : Int) + ((mcL mcEndpoint x.ends : Nat) : Int) + ((x.rollout.stages.length : Nat) : Int) + ((mcL mcDialed x.stage : Nat) : Int)), x.now, x.hurt, x.reached⟩
end Go.Eng.T

namespace Go.Eng.T
theorem datL_cons {y : Ty} {ys : List Ty} {cs : List V} (h : DatL (y :: ys) cs) : ∃ a b, Dat y a ∧ DatL ys b ∧ cs = a ++ b := by simp only [DatL] at h; exact h
theorem datL_nil {cs : List V} (h : DatL [] cs) : cs = [] := by simp only [DatL] at h; exact h
theorem dat_st {ys : List Ty} {cs : List V} (h : Dat (.st ys) cs) : DatL ys cs := by simp only [Dat] at h; exact h
def rgI (n : Int) : Prop := -9223372036854775808 ≤ n ∧ n ≤ 9223372036854775807
theorem rg_of {n : Int} (h : (Lit.int .i64 n).wf = true) : rgI n := by
  simp only [Lit.wf, IntKind.min, IntKind.max, IntKind.bits, IntKind.signed, Bool.and_eq_true, decide_eq_true_eq] at h
  exact ⟨h.1, h.2⟩
theorem datI {cs : List V} (h : Dat (.int .i64) cs) : ∃ n, cs = [.sc (.int .i64 n)] ∧ rgI n := by
  simp only [Dat] at h
  obtain ⟨n, h1, h2⟩ := h
  exact ⟨n, h2, rg_of h1⟩
theorem datB {cs : List V} (h : Dat .bool cs) : ∃ b, cs = [.sc (.bool b)] := by simp only [Dat] at h; exact h
theorem datS {cs : List V} (h : Dat .str cs) : ∃ s : ByteArray, cs = [.sc (.string s)] ∧ s.size ≤ maxLen := by
  simp only [Dat] at h
  obtain ⟨n, h1, h2⟩ := h
  exact ⟨n, h2, h1⟩
theorem choose_row {α : Type} {f : α → List V} {p : α → Prop} : ∀ {xs : List (List V)}, (∀ x, x ∈ xs → ∃ d, x = f d ∧ p d) → ∃ ds : List α, xs = ds.map f ∧ ∀ d, d ∈ ds → p d
  | [], _ => ⟨[], rfl, by simp⟩
  | x :: xs, h => by
    obtain ⟨d, rfl, hd⟩ := h x (by simp)
    obtain ⟨ds, rfl, hds⟩ := choose_row (xs := xs) fun y hy => h y (by simp [hy])
    exact ⟨d :: ds, rfl, by intro y hy; rcases List.mem_cons.1 hy with rfl | hy; exact hd; exact hds y hy⟩
theorem datRow {α : Type} {y : Ty} {f : α → List V} {p : α → Prop} (hf : ∀ cs, Dat y cs → ∃ d, cs = f d ∧ p d) {cs : List V} (h : Dat (.sl y) cs) :
    ∃ ds : List α, cs = [.sl 0 y.cells ds.length (ds.flatMap f)] ∧ ds.length ≤ maxLen ∧ ∀ d, d ∈ ds → p d := by
  simp only [Dat] at h
  obtain ⟨xs, h1, h2, rfl⟩ := h
  obtain ⟨ds, rfl, h3⟩ := choose_row (f := f) (p := p) (xs := xs) fun x hx => hf x (h2 x hx)
  exact ⟨ds, by simp [List.flatMap_def], by simpa using h1, h3⟩
def rgInts (xs : List Int) : Prop := ∀ x, x ∈ xs → rgI x
def rgS {α : Type} (f : α → Prop) (xs : List α) : Prop := ∀ x, x ∈ xs → f x
theorem datInts {cs : List V} (h : Dat (.sl (.int .i64)) cs) : ∃ xs : List Int, cs = [.sl 0 1 xs.length (ints xs)] ∧ lnInts xs ∧ rgInts xs := by
  obtain ⟨ds, h1, h2, h3⟩ := datRow (f := fun n => [V.sc (.int .i64 n)]) (p := rgI) (fun cs h => datI h) h
  refine ⟨ds, ?_, h2, h3⟩
  have e : ds.flatMap (fun n => [V.sc (.int .i64 n)]) = ints ds := by
    clear h1 h2 h3
    induction ds with
    | nil => rfl
    | cons a ds ih => rw [List.flatMap_cons, ih]; rfl
  rw [h1, e]
  rfl
def tyDeal : Ty := .st [.bool, .int .i64, .sl (.int .i64)]
def rgDeal (d : Deal) : Prop := rgI d.version ∧ rgInts d.tags
theorem datDeal {cs : List V} (h : Dat tyDeal cs) : ∃ x : Deal, cs = eDeal x ∧ lnDeal x ∧ rgDeal x := by
  have h0 := dat_st h
  obtain ⟨a0, r0, g0, h1, e0⟩ := datL_cons h0
  obtain ⟨x0, rfl⟩ := datB g0
  obtain ⟨a1, r1, g1, h2, e1⟩ := datL_cons h1
  obtain ⟨x1, rfl, w1⟩ := datI g1
  obtain ⟨a2, r2, g2, h3, e2⟩ := datL_cons h2
  obtain ⟨x2, rfl, l2, w2⟩ := datInts g2
  have z := datL_nil h3
  subst z; subst e2; subst e1; subst e0
  exact ⟨⟨x0, x1, x2⟩, rfl, l2, ⟨w1, w2⟩⟩
def tyBox : Ty := .st [.int .i64, .sl (.int .i64), .sl (.int .i64), .bool]
def rgBox (d : Box) : Prop := rgI d.limit ∧ rgInts d.drops ∧ rgInts d.strips
theorem datBox {cs : List V} (h : Dat tyBox cs) : ∃ x : Box, cs = eBox x ∧ lnBox x ∧ rgBox x := by
  have h0 := dat_st h
  obtain ⟨a0, r0, g0, h1, e0⟩ := datL_cons h0
  obtain ⟨x0, rfl, w0⟩ := datI g0
  obtain ⟨a1, r1, g1, h2, e1⟩ := datL_cons h1
  obtain ⟨x1, rfl, l1, w1⟩ := datInts g1
  obtain ⟨a2, r2, g2, h3, e2⟩ := datL_cons h2
  obtain ⟨x2, rfl, l2, w2⟩ := datInts g2
  obtain ⟨a3, r3, g3, h4, e3⟩ := datL_cons h3
  obtain ⟨x3, rfl⟩ := datB g3
  have z := datL_nil h4
  subst z; subst e3; subst e2; subst e1; subst e0
  exact ⟨⟨x0, x1, x2, x3⟩, rfl, ⟨l1, l2⟩, ⟨w0, w1, w2⟩⟩
theorem datBoxS {cs : List V} (h : Dat (.sl tyBox) cs) : ∃ xs : List Box, cs = [.sl 0 4 xs.length (xs.flatMap eBox)] ∧ lnS lnBox xs ∧ rgS rgBox xs := by
  obtain ⟨ds, h1, h2, h3⟩ := datRow (f := eBox) (p := fun x => lnBox x ∧ rgBox x) (fun cs h => datBox h) h
  exact ⟨ds, h1, ⟨h2, fun j hj => (h3 _ (List.getElem_mem hj)).1⟩, fun x hx => (h3 x hx).2⟩
def tyDialed : Ty := .st [tyDeal, .int .i64, .sl (.int .i64)]
def rgDialed (d : Dialed) : Prop := rgDeal d.deal ∧ rgI d.tries ∧ rgInts d.up
theorem datDialed {cs : List V} (h : Dat tyDialed cs) : ∃ x : Dialed, cs = eDialed x ∧ lnDialed x ∧ rgDialed x := by
  have h0 := dat_st h
  obtain ⟨a0, r0, g0, h1, e0⟩ := datL_cons h0
  obtain ⟨x0, rfl, l0, w0⟩ := datDeal g0
  obtain ⟨a1, r1, g1, h2, e1⟩ := datL_cons h1
  obtain ⟨x1, rfl, w1⟩ := datI g1
  obtain ⟨a2, r2, g2, h3, e2⟩ := datL_cons h2
  obtain ⟨x2, rfl, l2, w2⟩ := datInts g2
  have z := datL_nil h3
  subst z; subst e2; subst e1; subst e0
  exact ⟨⟨x0, x1, x2⟩, rfl, ⟨l0, l2⟩, ⟨w0, w1, w2⟩⟩
theorem datDialedS {cs : List V} (h : Dat (.sl tyDialed) cs) : ∃ xs : List Dialed, cs = [.sl 0 5 xs.length (xs.flatMap eDialed)] ∧ lnS lnDialed xs ∧ rgS rgDialed xs := by
  obtain ⟨ds, h1, h2, h3⟩ := datRow (f := eDialed) (p := fun x => lnDialed x ∧ rgDialed x) (fun cs h => datDialed h) h
  exact ⟨ds, h1, ⟨h2, fun j hj => (h3 _ (List.getElem_mem hj)).1⟩, fun x hx => (h3 x hx).2⟩
def tyRollout : Ty := .st [.int .i64, .sl (.int .i64), .int .i64, .bool]
def rgRollout (d : Rollout) : Prop := rgI d.version ∧ rgInts d.stages ∧ rgI d.pos
theorem datRollout {cs : List V} (h : Dat tyRollout cs) : ∃ x : Rollout, cs = eRollout x ∧ lnRollout x ∧ rgRollout x := by
  have h0 := dat_st h
  obtain ⟨a0, r0, g0, h1, e0⟩ := datL_cons h0
  obtain ⟨x0, rfl, w0⟩ := datI g0
  obtain ⟨a1, r1, g1, h2, e1⟩ := datL_cons h1
  obtain ⟨x1, rfl, l1, w1⟩ := datInts g1
  obtain ⟨a2, r2, g2, h3, e2⟩ := datL_cons h2
  obtain ⟨x2, rfl, w2⟩ := datI g2
  obtain ⟨a3, r3, g3, h4, e3⟩ := datL_cons h3
  obtain ⟨x3, rfl⟩ := datB g3
  have z := datL_nil h4
  subst z; subst e3; subst e2; subst e1; subst e0
  exact ⟨⟨x0, x1, x2, x3⟩, rfl, l1, ⟨w0, w1, w2⟩⟩
def tyEndpoint : Ty := .st [.sl (.int .i64), .sl (.int .i64), .sl tyBox, .int .i64]
def rgEndpoint (d : Endpoint) : Prop := rgInts d.versions ∧ rgInts d.tags ∧ rgS rgBox d.path ∧ rgI d.cls
theorem datEndpoint {cs : List V} (h : Dat tyEndpoint cs) : ∃ x : Endpoint, cs = eEndpoint x ∧ lnEndpoint x ∧ rgEndpoint x := by
  have h0 := dat_st h
  obtain ⟨a0, r0, g0, h1, e0⟩ := datL_cons h0
  obtain ⟨x0, rfl, l0, w0⟩ := datInts g0
  obtain ⟨a1, r1, g1, h2, e1⟩ := datL_cons h1
  obtain ⟨x1, rfl, l1, w1⟩ := datInts g1
  obtain ⟨a2, r2, g2, h3, e2⟩ := datL_cons h2
  obtain ⟨x2, rfl, l2, w2⟩ := datBoxS g2
  obtain ⟨a3, r3, g3, h4, e3⟩ := datL_cons h3
  obtain ⟨x3, rfl, w3⟩ := datI g3
  have z := datL_nil h4
  subst z; subst e3; subst e2; subst e1; subst e0
  exact ⟨⟨x0, x1, x2, x3⟩, rfl, ⟨l0, l1, l2⟩, ⟨w0, w1, w2, w3⟩⟩
theorem datEndpointS {cs : List V} (h : Dat (.sl tyEndpoint) cs) : ∃ xs : List Endpoint, cs = [.sl 0 4 xs.length (xs.flatMap eEndpoint)] ∧ lnS lnEndpoint xs ∧ rgS rgEndpoint xs := by
  obtain ⟨ds, h1, h2, h3⟩ := datRow (f := eEndpoint) (p := fun x => lnEndpoint x ∧ rgEndpoint x) (fun cs h => datEndpoint h) h
  exact ⟨ds, h1, ⟨h2, fun j hj => (h3 _ (List.getElem_mem hj)).1⟩, fun x hx => (h3 x hx).2⟩
def tyLogged : Ty := .st [.int .i64, .int .i64, .bool, tyDialed]
def rgLogged (d : Logged) : Prop := rgI d.fin ∧ rgI d.tick ∧ rgDialed d.dialed
theorem datLogged {cs : List V} (h : Dat tyLogged cs) : ∃ x : Logged, cs = eLogged x ∧ lnLogged x ∧ rgLogged x := by
  have h0 := dat_st h
  obtain ⟨a0, r0, g0, h1, e0⟩ := datL_cons h0
  obtain ⟨x0, rfl, w0⟩ := datI g0
  obtain ⟨a1, r1, g1, h2, e1⟩ := datL_cons h1
  obtain ⟨x1, rfl, w1⟩ := datI g1
  obtain ⟨a2, r2, g2, h3, e2⟩ := datL_cons h2
  obtain ⟨x2, rfl⟩ := datB g2
  obtain ⟨a3, r3, g3, h4, e3⟩ := datL_cons h3
  obtain ⟨x3, rfl, l3, w3⟩ := datDialed g3
  have z := datL_nil h4
  subst z; subst e3; subst e2; subst e1; subst e0
  exact ⟨⟨x0, x1, x2, x3⟩, rfl, l3, ⟨w0, w1, w3⟩⟩
theorem datLoggedS {cs : List V} (h : Dat (.sl tyLogged) cs) : ∃ xs : List Logged, cs = [.sl 0 8 xs.length (xs.flatMap eLogged)] ∧ lnS lnLogged xs ∧ rgS rgLogged xs := by
  obtain ⟨ds, h1, h2, h3⟩ := datRow (f := eLogged) (p := fun x => lnLogged x ∧ rgLogged x) (fun cs h => datLogged h) h
  exact ⟨ds, h1, ⟨h2, fun j hj => (h3 _ (List.getElem_mem hj)).1⟩, fun x hx => (h3 x hx).2⟩
def tyWorld : Ty := .st [.sl (.int .i64), .sl (.int .i64), .int .i64, .sl tyEndpoint, tyRollout, .int .i64, .int .i64, .sl tyDialed, .sl tyLogged, .int .i64, .int .i64, .int .i64]
def rgWorld (d : World) : Prop := rgInts d.server ∧ rgInts d.tags ∧ rgI d.key ∧ rgS rgEndpoint d.ends ∧ rgRollout d.rollout ∧ rgI d.least ∧ rgI d.percent ∧ rgS rgDialed d.stage ∧ rgS rgLogged d.log ∧ rgI d.now ∧ rgI d.hurt ∧ rgI d.reached
theorem datWorld {cs : List V} (h : Dat tyWorld cs) : ∃ x : World, cs = eWorld x ∧ lnWorld x ∧ rgWorld x := by
  have h0 := dat_st h
  obtain ⟨a0, r0, g0, h1, e0⟩ := datL_cons h0
  obtain ⟨x0, rfl, l0, w0⟩ := datInts g0
  obtain ⟨a1, r1, g1, h2, e1⟩ := datL_cons h1
  obtain ⟨x1, rfl, l1, w1⟩ := datInts g1
  obtain ⟨a2, r2, g2, h3, e2⟩ := datL_cons h2
  obtain ⟨x2, rfl, w2⟩ := datI g2
  obtain ⟨a3, r3, g3, h4, e3⟩ := datL_cons h3
  obtain ⟨x3, rfl, l3, w3⟩ := datEndpointS g3
  obtain ⟨a4, r4, g4, h5, e4⟩ := datL_cons h4
  obtain ⟨x4, rfl, l4, w4⟩ := datRollout g4
  obtain ⟨a5, r5, g5, h6, e5⟩ := datL_cons h5
  obtain ⟨x5, rfl, w5⟩ := datI g5
  obtain ⟨a6, r6, g6, h7, e6⟩ := datL_cons h6
  obtain ⟨x6, rfl, w6⟩ := datI g6
  obtain ⟨a7, r7, g7, h8, e7⟩ := datL_cons h7
  obtain ⟨x7, rfl, l7, w7⟩ := datDialedS g7
  obtain ⟨a8, r8, g8, h9, e8⟩ := datL_cons h8
  obtain ⟨x8, rfl, l8, w8⟩ := datLoggedS g8
  obtain ⟨a9, r9, g9, h10, e9⟩ := datL_cons h9
  obtain ⟨x9, rfl, w9⟩ := datI g9
  obtain ⟨a10, r10, g10, h11, e10⟩ := datL_cons h10
  obtain ⟨x10, rfl, w10⟩ := datI g10
  obtain ⟨a11, r11, g11, h12, e11⟩ := datL_cons h11
  obtain ⟨x11, rfl, w11⟩ := datI g11
  have z := datL_nil h12
  subst z; subst e11; subst e10; subst e9; subst e8; subst e7; subst e6; subst e5; subst e4; subst e3; subst e2; subst e1; subst e0
  exact ⟨⟨x0, x1, x2, x3, x4, x5, x6, x7, x8, x9, x10, x11⟩, rfl, ⟨l0, l1, l3, l4, l7, l8⟩, ⟨w0, w1, w2, w3, w4, w5, w6, w7, w8, w9, w10, w11⟩⟩
def tyEvent : Ty := .st [.int .i64, .int .i64, tyBox]
def rgEvent (d : Event) : Prop := rgI d.kind ∧ rgI d.n ∧ rgBox d.box
theorem datEvent {cs : List V} (h : Dat tyEvent cs) : ∃ x : Event, cs = eEvent x ∧ lnEvent x ∧ rgEvent x := by
  have h0 := dat_st h
  obtain ⟨a0, r0, g0, h1, e0⟩ := datL_cons h0
  obtain ⟨x0, rfl, w0⟩ := datI g0
  obtain ⟨a1, r1, g1, h2, e1⟩ := datL_cons h1
  obtain ⟨x1, rfl, w1⟩ := datI g1
  obtain ⟨a2, r2, g2, h3, e2⟩ := datL_cons h2
  obtain ⟨x2, rfl, l2, w2⟩ := datBox g2
  have z := datL_nil h3
  subst z; subst e2; subst e1; subst e0
  exact ⟨⟨x0, x1, x2⟩, rfl, l2, ⟨w0, w1, w2⟩⟩
theorem datEventS {cs : List V} (h : Dat (.sl tyEvent) cs) : ∃ xs : List Event, cs = [.sl 0 6 xs.length (xs.flatMap eEvent)] ∧ lnS lnEvent xs ∧ rgS rgEvent xs := by
  obtain ⟨ds, h1, h2, h3⟩ := datRow (f := eEvent) (p := fun x => lnEvent x ∧ rgEvent x) (fun cs h => datEvent h) h
  exact ⟨ds, h1, ⟨h2, fun j hj => (h3 _ (List.getElem_mem hj)).1⟩, fun x hx => (h3 x hx).2⟩

theorem argI {v : V} (h : ArgV (.int .i64) v) : ∃ n, v = I n ∧ rgI n := by
  obtain ⟨c, hd, rfl⟩ := h
  obtain ⟨n, e, w⟩ := datI hd
  cases e
  exact ⟨n, rfl, w⟩
theorem argB {v : V} (h : ArgV .bool v) : ∃ b, v = B b := by
  obtain ⟨c, hd, rfl⟩ := h
  obtain ⟨n, e⟩ := datB hd
  cases e
  exact ⟨n, rfl⟩
theorem argS {v : V} (h : ArgV .str v) : ∃ s : ByteArray, v = S s ∧ s.size ≤ maxLen := by
  obtain ⟨c, hd, rfl⟩ := h
  obtain ⟨n, e, w⟩ := datS hd
  cases e
  exact ⟨n, rfl, w⟩
theorem argInts {v : V} (h : ArgV (.sl (.int .i64)) v) : ∃ xs : List Int, v = .sl 1 1 xs.length (ints xs) ∧ lnInts xs ∧ rgInts xs := by
  obtain ⟨c, hd, rfl⟩ := h
  obtain ⟨xs, e, w⟩ := datInts hd
  cases e
  exact ⟨xs, rfl, w⟩
theorem argDeal {v : V} (h : ArgV tyDeal v) : ∃ x : Deal, v = arg (eDeal x) ∧ lnDeal x ∧ rgDeal x := by
  obtain ⟨cs, hd, rfl⟩ := h
  obtain ⟨x, rfl, w⟩ := datDeal hd
  exact ⟨x, rfl, w⟩
theorem argBox {v : V} (h : ArgV tyBox v) : ∃ x : Box, v = arg (eBox x) ∧ lnBox x ∧ rgBox x := by
  obtain ⟨cs, hd, rfl⟩ := h
  obtain ⟨x, rfl, w⟩ := datBox hd
  exact ⟨x, rfl, w⟩
theorem argBoxS {v : V} (h : ArgV (.sl tyBox) v) : ∃ xs : List Box, v = .sl 1 4 xs.length (xs.flatMap eBox) ∧ lnS lnBox xs ∧ rgS rgBox xs := by
  obtain ⟨c, hd, rfl⟩ := h
  obtain ⟨xs, e, w⟩ := datBoxS hd
  cases e
  exact ⟨xs, rfl, w⟩
theorem argDialed {v : V} (h : ArgV tyDialed v) : ∃ x : Dialed, v = arg (eDialed x) ∧ lnDialed x ∧ rgDialed x := by
  obtain ⟨cs, hd, rfl⟩ := h
  obtain ⟨x, rfl, w⟩ := datDialed hd
  exact ⟨x, rfl, w⟩
theorem argDialedS {v : V} (h : ArgV (.sl tyDialed) v) : ∃ xs : List Dialed, v = .sl 1 5 xs.length (xs.flatMap eDialed) ∧ lnS lnDialed xs ∧ rgS rgDialed xs := by
  obtain ⟨c, hd, rfl⟩ := h
  obtain ⟨xs, e, w⟩ := datDialedS hd
  cases e
  exact ⟨xs, rfl, w⟩
theorem argRollout {v : V} (h : ArgV tyRollout v) : ∃ x : Rollout, v = arg (eRollout x) ∧ lnRollout x ∧ rgRollout x := by
  obtain ⟨cs, hd, rfl⟩ := h
  obtain ⟨x, rfl, w⟩ := datRollout hd
  exact ⟨x, rfl, w⟩
theorem argEndpoint {v : V} (h : ArgV tyEndpoint v) : ∃ x : Endpoint, v = arg (eEndpoint x) ∧ lnEndpoint x ∧ rgEndpoint x := by
  obtain ⟨cs, hd, rfl⟩ := h
  obtain ⟨x, rfl, w⟩ := datEndpoint hd
  exact ⟨x, rfl, w⟩
theorem argEndpointS {v : V} (h : ArgV (.sl tyEndpoint) v) : ∃ xs : List Endpoint, v = .sl 1 4 xs.length (xs.flatMap eEndpoint) ∧ lnS lnEndpoint xs ∧ rgS rgEndpoint xs := by
  obtain ⟨c, hd, rfl⟩ := h
  obtain ⟨xs, e, w⟩ := datEndpointS hd
  cases e
  exact ⟨xs, rfl, w⟩
theorem argLogged {v : V} (h : ArgV tyLogged v) : ∃ x : Logged, v = arg (eLogged x) ∧ lnLogged x ∧ rgLogged x := by
  obtain ⟨cs, hd, rfl⟩ := h
  obtain ⟨x, rfl, w⟩ := datLogged hd
  exact ⟨x, rfl, w⟩
theorem argLoggedS {v : V} (h : ArgV (.sl tyLogged) v) : ∃ xs : List Logged, v = .sl 1 8 xs.length (xs.flatMap eLogged) ∧ lnS lnLogged xs ∧ rgS rgLogged xs := by
  obtain ⟨c, hd, rfl⟩ := h
  obtain ⟨xs, e, w⟩ := datLoggedS hd
  cases e
  exact ⟨xs, rfl, w⟩
theorem argWorld {v : V} (h : ArgV tyWorld v) : ∃ x : World, v = arg (eWorld x) ∧ lnWorld x ∧ rgWorld x := by
  obtain ⟨cs, hd, rfl⟩ := h
  obtain ⟨x, rfl, w⟩ := datWorld hd
  exact ⟨x, rfl, w⟩
theorem argEvent {v : V} (h : ArgV tyEvent v) : ∃ x : Event, v = arg (eEvent x) ∧ lnEvent x ∧ rgEvent x := by
  obtain ⟨cs, hd, rfl⟩ := h
  obtain ⟨x, rfl, w⟩ := datEvent hd
  exact ⟨x, rfl, w⟩
theorem argEventS {v : V} (h : ArgV (.sl tyEvent) v) : ∃ xs : List Event, v = .sl 1 6 xs.length (xs.flatMap eEvent) ∧ lnS lnEvent xs ∧ rgS rgEvent xs := by
  obtain ⟨c, hd, rfl⟩ := h
  obtain ⟨xs, e, w⟩ := datEventS hd
  cases e
  exact ⟨xs, rfl, w⟩
end Go.Eng.T

namespace Go.Eng.T
theorem szl_lt {n : Nat} {l : Int} (h : l < n) : szl n l = -1 := by unfold szl; rw [if_pos h]
theorem szl_ge {n : Nat} {l : Int} (h : ¬ l < n) : szl n l = l - n := by unfold szl; rw [if_neg h]
theorem mcL_sz {α : Type} {mc sz : α → Nat} (c : Nat) (h : ∀ x, mc x ≤ c * (1 + sz x)) (xs : List α) : mcL mc xs ≤ c * sumF sz xs := by
  induction xs with
  | nil => simp [mcL]
  | cons x r ih =>
    have := h x
    simp only [mcL, sumF, List.map_cons, List.sum_cons, List.length_cons] at *
    rw [Nat.mul_add] at *
    rw [Nat.mul_add] at *
    rw [Nat.mul_add]
    omega
theorem mc_szBoxS (xs : List Box) : mcL mcBox xs ≤ 2 * sumF szBox xs := mcL_sz 2 (fun x => by unfold mcBox szBox; omega) xs
theorem mc_szEndpoint (x : Endpoint) : mcEndpoint x ≤ 2 * (1 + szEndpoint x) := by have := mc_szBoxS x.path; unfold mcEndpoint szEndpoint; omega
theorem mc_szEndpointS (xs : List Endpoint) : mcL mcEndpoint xs ≤ 2 * sumF szEndpoint xs := mcL_sz 2 mc_szEndpoint xs
theorem mc_szDialedS (xs : List Dialed) : mcL mcDialed xs ≤ 3 * sumF szDialed xs := mcL_sz 3 (fun x => by unfold mcDialed szDialed szDeal; omega) xs
theorem mc_szLoggedS (xs : List Logged) : mcL mcLogged xs ≤ 6 * sumF szLogged xs := mcL_sz 6 (fun x => by unfold mcLogged szLogged szDialed szDeal; omega) xs
theorem mc_szEventS (xs : List Event) : mcL mcEvent xs ≤ 4 * sumF szEvent xs := mcL_sz 4 (fun x => by unfold mcEvent szEvent szBox; omega) xs
theorem mc_szWorld (x : World) : mcWorld x ≤ 6 * szWorld x := by
  have := mc_szEndpointS x.ends
  have := mc_szDialedS x.stage
  have := mc_szLoggedS x.log
  unfold mcWorld szWorld szRollout; omega
/-- sizes of a world's parts -/
theorem world_log {w : World} (h : szWorld w ≤ 1048576) : w.log.length ≤ 1048576 := by have := size_len (f := szLogged) (xs := w.log); unfold szWorld at h; omega
theorem world_ends {w : World} (h : szWorld w ≤ 1048576) : w.ends.length ≤ 1048576 := by have := size_len (f := szEndpoint) (xs := w.ends); unfold szWorld at h; omega
theorem world_stage {w : World} (h : szWorld w ≤ 1048576) : w.stage.length ≤ 1048576 := by have := size_len (f := szDialed) (xs := w.stage); unfold szWorld at h; omega
theorem beqI (a b : Int) : (a == b) = decide (a = b) := by by_cases h : a = b <;> simp [h]
end Go.Eng.T

namespace Go.Eng.T
set_option maxRecDepth 20000

abbrev InQ (a b c : Int) : Prop := b ≤ a ∧ a ≤ c
/-- shares that rise, each from 1 to 100 -/
def risesF (xs : List Int) (j : Nat) : Bool := (List.range j).all fun i => decide (InQ (xs.getD i 0) 1 100) && (decide (i = 0) || decide (xs.getD (i - 1) 0 < xs.getD i 0))
theorem risesF_step (xs : List Int) (j : Nat) : risesF xs (j + 1) = (risesF xs j && (decide (InQ (xs.getD j 0) 1 100) && (decide (j = 0) || decide (xs.getD (j - 1) 0 < xs.getD j 0)))) := by
  unfold risesF
  rw [List.range_succ, List.all_append]
  simp
theorem rises_no {xs : List Int} {j : Nat} (h : j < xs.length) (hn : risesF xs (j + 1) = false) : risesF xs xs.length = false := by
  have : ∀ n, risesF xs (j + 1 + n) = false := by
    intro n
    induction n with
    | zero => exact hn
    | succ n ih => rw [show j + 1 + (n + 1) = (j + 1 + n) + 1 by omega, risesF_step, ih]; rfl
  have := this (xs.length - (j + 1))
  rwa [show j + 1 + (xs.length - (j + 1)) = xs.length by omega] at this
def isRollout (r : Rollout) : Bool :=
  risesF r.stages r.stages.length && (decide (InQ r.version 1 9) && decide (InQ r.stages.length 1 5) && decide (r.stages.getD (r.stages.length - 1) 0 = 100) && decide (InQ r.pos 0 (r.stages.length - 1)))
abbrev IsRolloutS (R : Rel) : Prop := ∀ r : Rollout, r.stages.length ≤ 1048576 → R [arg (eRollout r)] [] (B (isRollout r)) []
theorem getD_at {xs : List Int} {j : Nat} (h : j < xs.length) : xs.getD j 0 = xs[j] := by simp [h]
theorem sIsRollout_b (D : Dn) (hI : InS (D gspec_l1In)) : IsRolloutS (Body D sspec_IsRollout) := by
  intro r hl
  simp -implicitDefEqProofs
  refine swp_loop (fun k s => ∃ j, j + k = r.stages.length ∧ risesF r.stages j = true ∧ s = ⟨[.undef, .ptr 0 0, .undef, .sc (.int .i64 j), .undef, .undef], [.var ((eRollout r).map (roCell 1))]⟩) ?_ r.stages.length _ ⟨0, by simp, by simp [risesF], by simp⟩
  intro k s ⟨j, hj, hr, hs⟩
  subst hs
  by_cases hjn : j < r.stages.length
  · have hw : IntKind.i64.wrap ((j : Int) + 1) = (j + 1 : Nat) := by rw [wrap_id (by omega) (by omega)]; simp
    have hst := risesF_step r.stages j
    rw [hr, Bool.true_and, getD_at hjn] at hst
    simp -implicitDefEqProofs [hjn]
    refine callQ_of (hI _ _ _) ?_
    by_cases h1 : InQ r.stages[j] 1 100
    rotate_left
    · have e : isRollout r = false := by unfold isRollout; rw [rises_no hjn (by rw [hst]; simp [h1])]; rfl
      simp -implicitDefEqProofs [h1, e]
    by_cases h0 : j = 0
    · subst h0
      simp -implicitDefEqProofs [h1]
      exact ⟨k - 1, by omega, 1, by omega, by rw [hst]; simp [h1], by simpa using hw⟩
    · have hp : ((j - 1 : Nat) : Int) = (j : Int) - 1 := by omega
      have hw2 : IntKind.i64.wrap ((j : Int) - 1) = ((j - 1 : Nat) : Int) := by rw [wrap_id (by omega) (by omega)]; omega
      have h2 : (0 : Int) < j := by omega
      have h2' : 0 < j := by omega
      have h3 : j - 1 < r.stages.length := by omega
      rw [getD_at h3] at hst
      by_cases h4 : r.stages[j - 1] < r.stages[j]
      · have h4' : ¬ r.stages[j] ≤ r.stages[j - 1] := by omega
        simp -implicitDefEqProofs [h1, h2, h2', hw2, h3, hjn, h4']
        exact ⟨k - 1, by omega, j + 1, by omega, by rw [hst]; simp [h1, h0, h4], by simp [hw]⟩
      · have e : isRollout r = false := by unfold isRollout; rw [rises_no hjn (by rw [hst]; simp [h1, h0, h4])]; rfl
        have h4' : r.stages[j] ≤ r.stages[j - 1] := by omega
        simp -implicitDefEqProofs [h1, h2, h2', hw2, h3, hjn, h4', e]
  · obtain rfl : j = r.stages.length := by omega
    simp -implicitDefEqProofs
    refine callQ_of (hI _ _ _) ?_
    by_cases h1 : InQ r.version 1 9
    rotate_left
    · simp -implicitDefEqProofs [h1, isRollout]
    simp -implicitDefEqProofs [h1]
    refine callQ_of (hI _ _ _) ?_
    by_cases h2 : InQ r.stages.length 1 5
    rotate_left
    · simp -implicitDefEqProofs [h2, isRollout]
    have hw2 : IntKind.i64.wrap ((r.stages.length : Int) - 1) = ((r.stages.length - 1 : Nat) : Int) := by rw [wrap_id (by omega) (by omega)]; omega
    have h3 : r.stages.length - 1 < r.stages.length := by omega
    have h5 : 0 < r.stages.length := by omega
    by_cases h4 : r.stages[r.stages.length - 1] = 100
    rotate_left
    · simp -implicitDefEqProofs [h2, hw2, h3, h4, h5, isRollout]
    simp -implicitDefEqProofs [h2, hw2, h3, h4, h5]
    refine callQ_of (hI _ _ _) ?_
    have hc : ((r.stages.length - 1 : Nat) : Int) = (r.stages.length : Int) - 1 := by omega
    have e : isRollout r = decide (InQ r.pos 0 ((r.stages.length - 1 : Nat) : Int)) := by unfold isRollout; rw [hr, getD_at h3, h4, hc]; simp [h1, h2]
    simp -implicitDefEqProofs [e]
theorem iIsRollout_b (D : Dn) (hI : InS (D gimpl_InRange)) : IsRolloutS (Body D simpl_IsRollout) := by
  intro r hl
  simp -implicitDefEqProofs
  refine swp_loop (fun k s => ∃ j v3 v4, j + k = r.stages.length ∧ risesF r.stages j = true ∧ s = ⟨[.undef, .ptr 0 0, .undef, v3, v4, .sl 1 1 r.stages.length (ints r.stages), .sc (.int .i64 r.stages.length), .sc (.int .i64 j), .undef, .undef], [.var ((eRollout r).map (roCell 1))]⟩) ?_ r.stages.length _ ⟨0, .undef, .undef, by simp, by simp [risesF], by simp⟩
  intro k s ⟨j, v3, v4, hj, hr, hs⟩
  subst hs
  by_cases hjn : j < r.stages.length
  · have hw : IntKind.i64.wrap ((j : Int) + 1) = (j + 1 : Nat) := by rw [wrap_id (by omega) (by omega)]; simp
    have hst := risesF_step r.stages j
    rw [hr, Bool.true_and, getD_at hjn] at hst
    simp -implicitDefEqProofs [hjn]
    refine callQ_of (hI _ _ _) ?_
    by_cases h1 : InQ r.stages[j] 1 100
    rotate_left
    · have e : isRollout r = false := by unfold isRollout; rw [rises_no hjn (by rw [hst]; simp [h1])]; rfl
      simp -implicitDefEqProofs [h1, e]
    by_cases h0 : j = 0
    · subst h0
      simp -implicitDefEqProofs [h1]
      exact ⟨k - 1, by omega, 1, by omega, by rw [hst]; simp [h1], by simpa using hw⟩
    · have hp : ((j - 1 : Nat) : Int) = (j : Int) - 1 := by omega
      have hw2 : IntKind.i64.wrap ((j : Int) - 1) = ((j - 1 : Nat) : Int) := by rw [wrap_id (by omega) (by omega)]; omega
      have h2 : (0 : Int) < j := by omega
      have h2' : 0 < j := by omega
      have h3 : j - 1 < r.stages.length := by omega
      rw [getD_at h3] at hst
      by_cases h4 : r.stages[j - 1] < r.stages[j]
      · have h4' : ¬ r.stages[j] ≤ r.stages[j - 1] := by omega
        simp -implicitDefEqProofs [h1, h2, h2', hw2, h3, hjn, h4']
        exact ⟨k - 1, by omega, j + 1, by omega, by rw [hst]; simp [h1, h0, h4], by simp [hw]⟩
      · have e : isRollout r = false := by unfold isRollout; rw [rises_no hjn (by rw [hst]; simp [h1, h0, h4])]; rfl
        have h4' : r.stages[j] ≤ r.stages[j - 1] := by omega
        simp -implicitDefEqProofs [h1, h2, h2', hw2, h3, hjn, h4', e]
  · obtain rfl : j = r.stages.length := by omega
    simp -implicitDefEqProofs
    refine callQ_of (hI _ _ _) ?_
    by_cases h1 : InQ r.version 1 9
    rotate_left
    · simp -implicitDefEqProofs [h1, isRollout]
    simp -implicitDefEqProofs [h1]
    refine callQ_of (hI _ _ _) ?_
    by_cases h2 : InQ r.stages.length 1 5
    rotate_left
    · simp -implicitDefEqProofs [h2, isRollout]
    have hw2 : IntKind.i64.wrap ((r.stages.length : Int) - 1) = ((r.stages.length - 1 : Nat) : Int) := by rw [wrap_id (by omega) (by omega)]; omega
    have h3 : r.stages.length - 1 < r.stages.length := by omega
    have h5 : 0 < r.stages.length := by omega
    by_cases h4 : r.stages[r.stages.length - 1] = 100
    rotate_left
    · simp -implicitDefEqProofs [h2, hw2, h3, h4, h5, isRollout]
    simp -implicitDefEqProofs [h2, hw2, h3, h4, h5]
    refine callQ_of (hI _ _ _) ?_
    have hc : ((r.stages.length - 1 : Nat) : Int) = (r.stages.length : Int) - 1 := by omega
    have e : isRollout r = decide (InQ r.pos 0 ((r.stages.length - 1 : Nat) : Int)) := by unfold isRollout; rw [hr, getD_at h3, h4, hc]; simp [h1, h2]
    simp -implicitDefEqProofs [e]

/-- rounded up -/
def ceilDiv (a b : Int) : Int := if InQ a 0 1000000000000 ∧ InQ b 1 1000000000000 then (a + b - 1).tdiv b else 0
abbrev CeilDivS (R : Rel) : Prop := ∀ a b : Int, R [I a, I b] [] (I (ceilDiv a b)) []
theorem tdiv_fit {a b : Int} (h1 : 0 ≤ a) (h2 : a ≤ 4000000000000) (h3 : 1 ≤ b) : IntKind.i64.wrap (a.tdiv b) = a.tdiv b := by
  have a1 : 0 ≤ a.tdiv b := Int.tdiv_nonneg h1 (by omega)
  have a2 : a.tdiv b ≤ a := Int.tdiv_le_self _ h1
  exact wrap_id (by omega) (by omega)
theorem sCeilDiv_b (D : Dn) (hI : InS (D gspec_l1In)) : CeilDivS (Body D sspec_CeilDiv) := by
  intro a b
  simp -implicitDefEqProofs
  refine callQ_of (hI _ _ _) ?_
  by_cases h1 : InQ a 0 1000000000000
  rotate_left
  · simp -implicitDefEqProofs [h1, ceilDiv]
  simp -implicitDefEqProofs [h1]
  refine callQ_of (hI _ _ _) ?_
  by_cases h2 : InQ b 1 1000000000000
  rotate_left
  · simp -implicitDefEqProofs [h2, ceilDiv]
  have w1 : IntKind.i64.wrap (a + b) = a + b := wrap_id (by omega) (by omega)
  have w2 : IntKind.i64.wrap (a + b - 1) = a + b - 1 := wrap_id (by omega) (by omega)
  have w3 := tdiv_fit (a := a + b - 1) (b := b) (by omega) (by omega) (by omega)
  have h0 : ¬ b = 0 := by omega
  have e : ceilDiv a b = (a + b - 1).tdiv b := by unfold ceilDiv; rw [if_pos ⟨h1, h2⟩]
  simp -implicitDefEqProofs [h2, w1, w2, w3, h0, e]
theorem iCeilDiv_b (D : Dn) (hI : InS (D gimpl_InRange)) : CeilDivS (Body D simpl_CeilDiv) := by
  intro a b
  simp -implicitDefEqProofs
  refine callQ_of (hI _ _ _) ?_
  by_cases h1 : InQ a 0 1000000000000
  rotate_left
  · simp -implicitDefEqProofs [h1, ceilDiv]
  simp -implicitDefEqProofs [h1]
  refine callQ_of (hI _ _ _) ?_
  by_cases h2 : InQ b 1 1000000000000
  rotate_left
  · simp -implicitDefEqProofs [h2, ceilDiv]
  have w1 : IntKind.i64.wrap (a + b) = a + b := wrap_id (by omega) (by omega)
  have w2 : IntKind.i64.wrap (a + b - 1) = a + b - 1 := wrap_id (by omega) (by omega)
  have w3 := tdiv_fit (a := a + b - 1) (b := b) (by omega) (by omega) (by omega)
  have h0 : ¬ b = 0 := by omega
  have e : ceilDiv a b = (a + b - 1).tdiv b := by unfold ceilDiv; rw [if_pos ⟨h1, h2⟩]
  simp -implicitDefEqProofs [h2, w1, w2, w3, h0, e]
end Go.Eng.T

namespace Go.Eng.T
set_option maxRecDepth 20000

theorem rises_at {xs : List Int} {n : Nat} (h : risesF xs n = true) {i : Nat} (hi : i < n) : InQ (xs.getD i 0) 1 100 := by
  unfold risesF at h
  have := List.all_eq_true.1 h i (List.mem_range.2 hi)
  simp at this
  exact ⟨this.1.1, this.1.2⟩
theorem roll_pos {r : Rollout} (h : isRollout r = true) : 0 ≤ r.pos ∧ r.pos < r.stages.length ∧ r.stages.length ≤ 5 ∧ InQ (r.stages.getD r.pos.toNat 0) 1 100 := by
  unfold isRollout at h
  simp only [Bool.and_eq_true, decide_eq_true_eq] at h
  obtain ⟨h1, ⟨⟨h2, h3⟩, h4⟩, h5⟩ := h
  refine ⟨h5.1, by omega, by omega, rises_at h1 (by omega)⟩
def countIn (r : Rollout) (n : Int) : Int := if isRollout r = true ∧ r.off = false ∧ InQ n 0 10000 then ceilDiv (n * r.stages.getD r.pos.toNat 0) 100 else 0
abbrev CountInS (R : Rel) : Prop := ∀ (r : Rollout) (n : Int), r.stages.length ≤ 1048576 → R [arg (eRollout r), I n] [] (I (countIn r n)) []
theorem mul_fit {n x : Int} (h1 : InQ n 0 10000) (h2 : InQ x 1 100) : IntKind.i64.wrap (n * x) = n * x := by
  have a1 : 0 ≤ n * x := Int.mul_nonneg h1.1 (by omega)
  have a2 : n * x ≤ 10000 * 100 := Int.mul_le_mul h1.2 h2.2 (by omega) (by omega)
  exact wrap_id (by omega) (by omega)
theorem sCountIn_b (D : Dn) (hR : IsRolloutS (D gspec_IsRollout)) (hI : InS (D gspec_l1In)) (hC : CeilDivS (D gspec_CeilDiv)) : CountInS (Body D sspec_CountIn) := by
  intro r n hl
  simp -implicitDefEqProofs
  refine callQ_of (hR r hl) ?_
  by_cases h1 : isRollout r = true
  rotate_left
  · simp -implicitDefEqProofs [h1, countIn]
  by_cases h2 : r.off = true
  · simp -implicitDefEqProofs [h1, h2, countIn]
  simp -implicitDefEqProofs [h1, h2]
  refine callQ_of (hI _ _ _) ?_
  by_cases h3 : InQ n 0 10000
  rotate_left
  · simp -implicitDefEqProofs [h3, countIn]
  obtain ⟨p1, p2, p3, p4⟩ := roll_pos h1
  obtain ⟨q, hq⟩ : ∃ q : Nat, r.pos = q := ⟨r.pos.toNat, by omega⟩
  have hq2 : q < r.stages.length := by omega
  have e : countIn r n = ceilDiv (n * r.stages[q]) 100 := by unfold countIn; rw [if_pos ⟨h1, by simpa using h2, h3⟩, hq]; simp [hq2]
  have p4' : InQ r.stages[q] 1 100 := by rw [hq] at p4; simpa [hq2] using p4
  have hw := mul_fit h3 p4'
  simp -implicitDefEqProofs [h3, hq, hq2, hw]
  refine callQ_of (hC _ _) ?_
  simp -implicitDefEqProofs [e]
theorem iCountIn_b (D : Dn) (hR : IsRolloutS (D gimpl_IsRollout)) (hI : InS (D gimpl_InRange)) (hC : CeilDivS (D gimpl_CeilDiv)) : CountInS (Body D simpl_CountIn) := by
  intro r n hl
  simp -implicitDefEqProofs
  refine callQ_of (hR r hl) ?_
  by_cases h1 : isRollout r = true
  rotate_left
  · simp -implicitDefEqProofs [h1, countIn]
  by_cases h2 : r.off = true
  · simp -implicitDefEqProofs [h1, h2, countIn]
  simp -implicitDefEqProofs [h1, h2]
  refine callQ_of (hI _ _ _) ?_
  by_cases h3 : InQ n 0 10000
  rotate_left
  · simp -implicitDefEqProofs [h3, countIn]
  obtain ⟨p1, p2, p3, p4⟩ := roll_pos h1
  obtain ⟨q, hq⟩ : ∃ q : Nat, r.pos = q := ⟨r.pos.toNat, by omega⟩
  have hq2 : q < r.stages.length := by omega
  have e : countIn r n = ceilDiv (n * r.stages[q]) 100 := by unfold countIn; rw [if_pos ⟨h1, by simpa using h2, h3⟩, hq]; simp [hq2]
  have p4' : InQ r.stages[q] 1 100 := by rw [hq] at p4; simpa [hq2] using p4
  have hw := mul_fit h3 p4'
  simp -implicitDefEqProofs [h3, hq, hq2, hw]
  refine callQ_of (hC _ _) ?_
  simp -implicitDefEqProofs [e]

def isIn (r : Rollout) (i n : Int) : Bool := decide (0 ≤ i) && decide (i < n) && decide (i < countIn r n)
abbrev IsInS (R : Rel) : Prop := ∀ (r : Rollout) (i n : Int), r.stages.length ≤ 1048576 → R [arg (eRollout r), I i, I n] [] (B (isIn r i n)) []
theorem sIsIn_b (D : Dn) (hC : CountInS (D gspec_CountIn)) : IsInS (Body D sspec_IsIn) := by
  intro r i n hl
  by_cases h1 : 0 ≤ i
  · by_cases h2 : i < n
    · simp -implicitDefEqProofs [h1, h2]
      refine callQ_of (hC r n hl) ?_
      simp -implicitDefEqProofs [isIn, h1, h2]
    · simp -implicitDefEqProofs [h1, h2, isIn]
  · simp -implicitDefEqProofs [h1, isIn]
theorem iIsIn_b (D : Dn) (hC : CountInS (D gimpl_CountIn)) : IsInS (Body D simpl_IsIn) := by
  intro r i n hl
  by_cases h1 : 0 ≤ i
  · by_cases h2 : i < n
    · simp -implicitDefEqProofs [h1, h2]
      refine callQ_of (hC r n hl) ?_
      simp -implicitDefEqProofs [isIn, h1, h2]
    · simp -implicitDefEqProofs [h1, h2, isIn]
  · simp -implicitDefEqProofs [h1, isIn]

abbrev hasEndS (R : Rel) : Prop := ∀ (w : World) (i : Int), w.ends.length ≤ 1048576 → R [arg (eWorld w), I i] [] (B (decide (InQ i 0 ((w.ends.length : Int) - 1)))) []
theorem hasEnd_b (D : Dn) (hI : InS (D gimpl_InRange)) : hasEndS (Body D simpl_hasEnd) := by
  intro w i hl
  have hw : IntKind.i64.wrap ((w.ends.length : Int) - 1) = (w.ends.length : Int) - 1 := wrap_id (by omega) (by omega)
  simp -implicitDefEqProofs [hw]
  refine callQ_of (hI _ _ _) ?_
  simp -implicitDefEqProofs

def isOnNew (w : World) (i : Int) : Bool := decide (InQ i 0 ((w.ends.length : Int) - 1)) && isIn w.rollout i w.ends.length && (match w.ends[i.toNat]? with | some e => decide (w.rollout.version ∈ e.versions) | none => false)
theorem world_vers' {w : World} (h : szWorld w ≤ 1048576) {j : Nat} (hj : j < w.ends.length) : w.ends[j].versions.length ≤ maxLen := by
  have := size_at (f := szEndpoint) hj
  have e : szEndpoint w.ends[j] = w.ends[j].versions.length + w.ends[j].tags.length + sumF szBox w.ends[j].path := rfl
  unfold szWorld at h
  unfold maxLen; omega
theorem world_roll {w : World} (h : szWorld w ≤ 1048576) : w.rollout.stages.length ≤ 1048576 := by unfold szWorld szRollout at h; omega
abbrev IsOnNewS (R : Rel) : Prop := ∀ (w : World) (i : Int), szWorld w ≤ 1048576 → R [arg (eWorld w), I i] [] (B (isOnNew w i)) []
theorem sIsOnNew_b (D : Dn) (hI : InS (D gspec_l1In)) (hN : IsInS (D gspec_IsIn)) (hH : HasS (D gspec_l9Has)) : IsOnNewS (Body D sspec_IsOnNew) := by
  intro w i hsz
  have hl := world_ends hsz
  have hw : IntKind.i64.wrap ((w.ends.length : Int) - 1) = (w.ends.length : Int) - 1 := wrap_id (by omega) (by omega)
  simp -implicitDefEqProofs [hw]
  refine callQ_of (hI _ _ _) ?_
  by_cases h1 : InQ i 0 ((w.ends.length : Int) - 1)
  rotate_left
  · simp -implicitDefEqProofs [h1, isOnNew]
  simp -implicitDefEqProofs [h1]
  refine callQ_of (hN w.rollout _ _ (world_roll hsz)) ?_
  by_cases h2 : isIn w.rollout i w.ends.length = true
  rotate_left
  · simp -implicitDefEqProofs [h2, isOnNew]
  obtain ⟨j, rfl⟩ : ∃ j : Nat, i = j := ⟨i.toNat, by omega⟩
  have hj : j < w.ends.length := by omega
  simp -implicitDefEqProofs [h2, hj]
  refine callQ_of (hH _ _ (world_vers' hsz hj)) ?_
  simp -implicitDefEqProofs [isOnNew, h1, h2, hj]
theorem iIsOnNew_b (D : Dn) (hE : hasEndS (D gimpl_hasEnd)) (hN : IsInS (D gimpl_IsIn)) (hH : HasS (D gslices_Contains___int_int_)) : IsOnNewS (Body D simpl_IsOnNew) := by
  intro w i hsz
  have hl := world_ends hsz
  simp -implicitDefEqProofs
  refine callQ_of (hE w i hl) ?_
  by_cases h1 : InQ i 0 ((w.ends.length : Int) - 1)
  rotate_left
  · simp -implicitDefEqProofs [h1, isOnNew]
  simp -implicitDefEqProofs [h1]
  refine callQ_of (hN w.rollout _ _ (world_roll hsz)) ?_
  by_cases h2 : isIn w.rollout i w.ends.length = true
  rotate_left
  · simp -implicitDefEqProofs [h2, isOnNew]
  obtain ⟨j, rfl⟩ : ∃ j : Nat, i = j := ⟨i.toNat, by omega⟩
  have hj : j < w.ends.length := by omega
  simp -implicitDefEqProofs [h2, hj]
  refine callQ_of (hH _ _ (world_vers' hsz hj)) ?_
  simp -implicitDefEqProofs [isOnNew, h1, h2, hj]
end Go.Eng.T

namespace Go.Eng.T
set_option maxRecDepth 20000

def cntR (p : Nat → Bool) : Nat → Nat
  | 0 => 0
  | n + 1 => cntR p n + (if p n then 1 else 0)
theorem cntR_le (p : Nat → Bool) : ∀ n, cntR p n ≤ n
  | 0 => Nat.le_refl 0
  | n + 1 => by have := cntR_le p n; simp only [cntR]; split <;> omega
def onNew (w : World) (i : Nat) : Bool := isOnNew w (i : Int)
abbrev OnNewCountS (R : Rel) : Prop := ∀ w : World, szWorld w ≤ 1048576 → R [arg (eWorld w)] [] (I (cntR (onNew w) w.ends.length)) []
theorem sOnNewCount_b (D : Dn) (hN : IsOnNewS (D gspec_IsOnNew)) : OnNewCountS (Body D sspec_OnNewCount) := by
  intro w hsz
  have hl := world_ends hsz
  simp -implicitDefEqProofs
  refine swp_loop (fun k s => ∃ j, j + k = w.ends.length ∧ s = ⟨[.undef, .ptr 0 0, .undef, .sc (.int .i64 (cntR (onNew w) j)), .sc (.int .i64 j), .undef, .undef], [.var ((eWorld w).map (roCell 1))]⟩) ?_ w.ends.length _ ⟨0, by simp, by simp [cntR]⟩
  intro k s ⟨j, hj, hs⟩
  subst hs
  by_cases hjn : j < w.ends.length
  · have hw : IntKind.i64.wrap ((j : Int) + 1) = (j + 1 : Nat) := by rw [wrap_id (by omega) (by omega)]; simp
    have hc := cntR_le (onNew w) j
    have hw2 : IntKind.i64.wrap ((cntR (onNew w) j : Int) + 1) = (cntR (onNew w) j + 1 : Nat) := by rw [wrap_id (by omega) (by omega)]; simp
    simp -implicitDefEqProofs [hjn]
    refine callQ_of (hN w j hsz) ?_
    by_cases h : isOnNew w j = true
    · simp -implicitDefEqProofs [h]
      exact ⟨k - 1, by omega, j + 1, by omega, by rw [hw2]; simp [cntR, onNew, h], by simp [hw]⟩
    · simp -implicitDefEqProofs [h]
      exact ⟨k - 1, by omega, j + 1, by omega, by simp [cntR, onNew, h], by simp [hw]⟩
  · obtain rfl : j = w.ends.length := by omega
    simp -implicitDefEqProofs
theorem iOnNewCount_b (D : Dn) (hN : IsOnNewS (D gimpl_IsOnNew)) : OnNewCountS (Body D simpl_OnNewCount) := by
  intro w hsz
  have hl := world_ends hsz
  simp -implicitDefEqProofs
  refine swp_loop (fun k s => ∃ j, j + k = w.ends.length ∧ s = ⟨[.undef, .ptr 0 0, .undef, .sc (.int .i64 (cntR (onNew w) j)), .undef, .sc (.int .i64 w.ends.length), .sc (.int .i64 j), .undef, .undef], [.var ((eWorld w).map (roCell 1))]⟩) ?_ w.ends.length _ ⟨0, by simp, by simp [cntR]⟩
  intro k s ⟨j, hj, hs⟩
  subst hs
  by_cases hjn : j < w.ends.length
  · have hw : IntKind.i64.wrap ((j : Int) + 1) = (j + 1 : Nat) := by rw [wrap_id (by omega) (by omega)]; simp
    have hc := cntR_le (onNew w) j
    have hw2 : IntKind.i64.wrap ((cntR (onNew w) j : Int) + 1) = (cntR (onNew w) j + 1 : Nat) := by rw [wrap_id (by omega) (by omega)]; simp
    simp -implicitDefEqProofs [hjn]
    refine callQ_of (hN w j hsz) ?_
    by_cases h : isOnNew w j = true
    · simp -implicitDefEqProofs [h]
      exact ⟨k - 1, by omega, j + 1, by omega, by rw [hw2]; simp [cntR, onNew, h], by simp [hw]⟩
    · simp -implicitDefEqProofs [h]
      exact ⟨k - 1, by omega, j + 1, by omega, by simp [cntR, onNew, h], by simp [hw]⟩
  · obtain rfl : j = w.ends.length := by omega
    simp -implicitDefEqProofs
end Go.Eng.T

namespace Go.Eng.T

theorem nums_push : ∀ (n : Nat) (k : Int), nums n k ++ [k + n] = nums (n + 1) k
  | 0, k => by simp [nums]
  | n + 1, k => by
    have := nums_push n (k + 1)
    simp only [nums, List.cons_append]
    rw [show k + ((n + 1 : Nat) : Int) = k + 1 + (n : Int) by omega, this]
    rfl
theorem numsJ_set {xs : List Int} {k : Int} {j : Nat} (h : j < xs.length) : (nums j k ++ xs.drop j).set j (k + j) = nums (j + 1) k ++ xs.drop (j + 1) := by
  rw [List.set_append_right _ _ (by simp), nums_len, Nat.sub_self, List.drop_eq_getElem_cons h, List.set_cons_zero, ← nums_push, List.append_assoc]
  rfl

abbrev markIntSS (R : Rel) : Prop := ∀ (xs : List Int) (k : Int), 0 ≤ k → k + xs.length ≤ 4611686018427387904 → R [.arr 0, I k] [.arr 1 0 xs.length (ints xs)] (I (k + xs.length)) [.arr 1 0 xs.length (ints (nums xs.length k))]
abbrev heldIntSS (R : Rel) : Prop := ∀ (n : Nat) (k : Int), 0 ≤ k → k + n ≤ 4611686018427387904 → R [.sl 1 1 n (ints (nums n k)), I k] [] (I (k + n)) []
end Go.Eng.T

namespace Go.Eng.T
abbrev markBoxSS (R : Rel) : Prop := ∀ (xs : List Box) (k : Int), 0 ≤ k → k + mcL mcBox xs ≤ 4611686018427387904 → R [.arr 0, I k] [.arr 4 0 xs.length (xs.flatMap eBox)] (I (k + mcL mcBox xs)) [.arr 4 0 xs.length ((mkL mcBox mkBox xs k).flatMap eBox)]
abbrev heldBoxSS (R : Rel) : Prop := ∀ (xs : List Box) (k : Int), 0 ≤ k → k + mcL mcBox xs ≤ 4611686018427387904 → R [.sl 1 4 xs.length ((mkL mcBox mkBox xs k).flatMap eBox), I k] [] (I (k + mcL mcBox xs)) []
abbrev markEndpointSS (R : Rel) : Prop := ∀ (xs : List Endpoint) (k : Int), 0 ≤ k → k + mcL mcEndpoint xs ≤ 4611686018427387904 → R [.arr 0, I k] [.arr 4 0 xs.length (xs.flatMap eEndpoint)] (I (k + mcL mcEndpoint xs)) [.arr 4 0 xs.length ((mkL mcEndpoint mkEndpoint xs k).flatMap eEndpoint)]
abbrev heldEndpointSS (R : Rel) : Prop := ∀ (xs : List Endpoint) (k : Int), 0 ≤ k → k + mcL mcEndpoint xs ≤ 4611686018427387904 → R [.sl 1 4 xs.length ((mkL mcEndpoint mkEndpoint xs k).flatMap eEndpoint), I k] [] (I (k + mcL mcEndpoint xs)) []
end Go.Eng.T

namespace Go.Eng.T
set_option maxRecDepth 20000
abbrev markDialedSS (R : Rel) : Prop := ∀ (xs : List Dialed) (k : Int), 0 ≤ k → k + mcL mcDialed xs ≤ 4611686018427387904 → R [.arr 0, I k] [.arr 5 0 xs.length (xs.flatMap eDialed)] (I (k + mcL mcDialed xs)) [.arr 5 0 xs.length ((mkL mcDialed mkDialed xs k).flatMap eDialed)]
abbrev heldDialedSS (R : Rel) : Prop := ∀ (xs : List Dialed) (k : Int), 0 ≤ k → k + mcL mcDialed xs ≤ 4611686018427387904 → R [.sl 1 5 xs.length ((mkL mcDialed mkDialed xs k).flatMap eDialed), I k] [] (I (k + mcL mcDialed xs)) []
abbrev markLoggedSS (R : Rel) : Prop := ∀ (xs : List Logged) (k : Int), 0 ≤ k → k + mcL mcLogged xs ≤ 4611686018427387904 → R [.arr 0, I k] [.arr 8 0 xs.length (xs.flatMap eLogged)] (I (k + mcL mcLogged xs)) [.arr 8 0 xs.length ((mkL mcLogged mkLogged xs k).flatMap eLogged)]
abbrev heldLoggedSS (R : Rel) : Prop := ∀ (xs : List Logged) (k : Int), 0 ≤ k → k + mcL mcLogged xs ≤ 4611686018427387904 → R [.sl 1 8 xs.length ((mkL mcLogged mkLogged xs k).flatMap eLogged), I k] [] (I (k + mcL mcLogged xs)) []
end Go.Eng.T

namespace Go.Eng.T
set_option maxRecDepth 20000
abbrev markRolloutS (R : Rel) : Prop := ∀ (x : Rollout) (k : Int), 0 ≤ k → k + mcRollout x ≤ 4611686018427387904 → R [.agg [.sc (.int .i64 x.version), .arr 0, .sc (.int .i64 x.pos), .sc (.bool x.off)], I k] [.arr 1 0 x.stages.length (ints (x.stages))] (I (k + mcRollout x)) [.arr 1 0 x.stages.length (ints ((mkRollout x k).stages))]
abbrev heldRolloutS (R : Rel) : Prop := ∀ (x : Rollout) (k : Int), 0 ≤ k → k + mcRollout x ≤ 4611686018427387904 → R [arg (eRollout (mkRollout x k)), I k] [] (I (k + mcRollout x)) []
abbrev markWorldS (R : Rel) : Prop := ∀ (x : World) (k : Int), 0 ≤ k → k + mcWorld x ≤ 4611686018427387904 → R [.agg [.arr 0, .arr 1, .sc (.int .i64 x.key), .arr 2, .sc (.int .i64 x.rollout.version), .arr 3, .sc (.int .i64 x.rollout.pos), .sc (.bool x.rollout.off), .sc (.int .i64 x.least), .sc (.int .i64 x.percent), .arr 4, .arr 5, .sc (.int .i64 x.now), .sc (.int .i64 x.hurt), .sc (.int .i64 x.reached)], I k] [.arr 1 0 x.server.length (ints (x.server)), .arr 1 0 x.tags.length (ints (x.tags)), .arr 4 0 x.ends.length ((x.ends).flatMap eEndpoint), .arr 1 0 x.rollout.stages.length (ints (x.rollout.stages)), .arr 5 0 x.stage.length ((x.stage).flatMap eDialed), .arr 8 0 x.log.length ((x.log).flatMap eLogged)] (I (k + mcWorld x)) [.arr 1 0 x.server.length (ints ((mkWorld x k).server)), .arr 1 0 x.tags.length (ints ((mkWorld x k).tags)), .arr 4 0 x.ends.length (((mkWorld x k).ends).flatMap eEndpoint), .arr 1 0 x.rollout.stages.length (ints ((mkWorld x k).rollout.stages)), .arr 5 0 x.stage.length (((mkWorld x k).stage).flatMap eDialed), .arr 8 0 x.log.length (((mkWorld x k).log).flatMap eLogged)]
abbrev heldWorldS (R : Rel) : Prop := ∀ (x : World) (k : Int), 0 ≤ k → k + mcWorld x ≤ 4611686018427387904 → R [arg (eWorld (mkWorld x k)), I k] [] (I (k + mcWorld x)) []
end Go.Eng.T

namespace Go.Eng.T
set_option maxRecDepth 20000
abbrev FnExactIsOnNewS (R : Rel) : Prop := ∀ (aW : World) (aI : Int), lnWorld aW → rgWorld aW → rgI aI → R [arg (eWorld aW), I aI] [] (B true) []
abbrev FnExactOnNewCountS (R : Rel) : Prop := ∀ (aW : World), lnWorld aW → rgWorld aW → R [arg (eWorld aW)] [] (B true) []
theorem FnExactOnNewCount_b (D : Dn) (hs : OnNewCountS (D gspec_OnNewCount)) (hi : OnNewCountS (D gimpl_OnNewCount)) (hszWorld : szWorldS (D glaws_szWorld)) (htoWorld : toWorldS (D glaws_toWorld)) (heqWorld : eqWorldS (D glaws_eqWorld)) : FnExactOnNewCountS (Body D slaws_FnExactOnNewCount) := by
  intro aW l_aW w_aW
  simp -implicitDefEqProofs []
  refine callQ_of (hszWorld aW ((1048576 : Int)) (by omega) (by omega) l_aW) ?_
  by_cases g1 : (1048576 : Int) < ((szWorld aW : Nat) : Int)
  · simp -implicitDefEqProofs [szl_lt g1]
  have p1 : ¬ (1048576 : Int) - ((szWorld aW : Nat) : Int) < 0 := by omega
  simp -implicitDefEqProofs [szl_ge g1, p1]
  have hs' := hs aW (by omega)
  have hi' := hi aW (by omega)
  refine callQ_of (htoWorld aW (by omega)) ?_
  simp -implicitDefEqProofs [szl_ge g1, p1]
  refine callQ_of (hs') ?_
  simp -implicitDefEqProofs [szl_ge g1, p1]
  refine callQ_of (htoWorld aW (by omega)) ?_
  simp -implicitDefEqProofs [szl_ge g1, p1]
  refine callQ_of (hi') ?_
  simp -implicitDefEqProofs [szl_ge g1, p1]
  refine callQ_of (htoWorld aW (by omega)) ?_
  simp -implicitDefEqProofs [szl_ge g1, p1]
  refine callQ_of (heqWorld aW aW (by omega) (by omega)) ?_
  simp -implicitDefEqProofs [szl_ge g1, p1]
end Go.Eng.T

