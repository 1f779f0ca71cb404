/- Own work: part 44 of the proof of FnExactIsBounded. -/
import Derived.Test.YtncobgjmochecabP43
import Derived.Lib.SlicesCompact
import Derived.Below
import Derived.Sort.Grow
import Derived.Deep.Draws
import Derived.Lib.LaidTab
import Derived.Sort.Row
import Derived.Laws.IdiomCopy
import Derived.Laws.AppendOwn
set_option linter.unusedSimpArgs false
set_option linter.unusedVariables false
namespace Go.Eng.T
abbrev szDealS (R : Rel) : Prop := ∀ (x : Deal) (l : Int), 0 ≤ l → l ≤ 4194304 → lnDeal x → R [arg (eDeal x), I l] [] (I (szl (szDeal x) l)) []
theorem szDeal_b (D : Dn) (hszIntS : szIntSS (D 16)) : szDealS (Body D slaws_szDeal) := by
  intro x l hl1 hl2 hln
  simp only [lnDeal] at hln
  simp -implicitDefEqProofs
  refine callQ_of (hszIntS x.tags (l) (by omega) (by omega) hln) ?_
  by_cases g0 : l < ((x.tags.length : Nat) : Int)
  · have gg : l < ((szDeal x : Nat) : Int) := by simp only [szDeal]; omega
    have e1 : szl (x.tags.length) (l) = -1 := by unfold szl; rw [if_pos g0]
    have e2 : szl (szDeal x) l = -1 := by unfold szl; rw [if_pos gg]
    simp -implicitDefEqProofs [e1, e2]
  have e3 : szl (x.tags.length) (l) = l - ((x.tags.length : Nat) : Int) := by unfold szl; rw [if_neg g0]
  have p0 : ¬ l - ((x.tags.length : Nat) : Int) < 0 := by omega
  simp -implicitDefEqProofs [e3, p0]
  have gg : ¬ l < ((szDeal x : Nat) : Int) := by simp only [szDeal]; omega
  unfold szl; rw [if_neg gg]; simp only [szDeal] <;> omega
abbrev toDealS (R : Rel) : Prop := ∀ x : Deal, szDeal x ≤ 4194304 → R [arg (eDeal x)] [] (.agg (eDeal x)) []
theorem toDeal_b (D : Dn) (htoIntS : toIntSS (D 31)) : toDealS (Body D slaws_toDeal) := by
  intro x h
  simp only [szDeal] at h
  simp -implicitDefEqProofs
  refine callQ_of (htoIntS x.tags (by omega)) ?_
  simp -implicitDefEqProofs
abbrev eqDealS (R : Rel) : Prop := ∀ x y : Deal, szDeal x ≤ 2 ^ 40 → szDeal y ≤ 2 ^ 40 → R [arg (eDeal x), arg (eDeal y)] [] (B (decide (x = y))) []
theorem eqDeal_b (D : Dn) (heqIntS : eqIntSS (D 47)) : eqDealS (Body D slaws_eqDeal) := by
  intro x y h1 h2
  simp only [szDeal] at h1 h2
  by_cases g_ok : x.ok = y.ok
  rotate_left
  · have hne : x ≠ y := fun h => g_ok (by rw [h])
    simp -implicitDefEqProofs [g_ok, hne]
  simp -implicitDefEqProofs [g_ok]
  by_cases g_version : x.version = y.version
  rotate_left
  · have hne : x ≠ y := fun h => g_version (by rw [h])
    simp -implicitDefEqProofs [g_version, hne]
  simp -implicitDefEqProofs [g_version]
  refine callQ_of (heqIntS x.tags y.tags (by unfold maxLen; omega) (by unfold maxLen; omega)) ?_
  by_cases g_tags : x.tags = y.tags
  rotate_left
  · have hne : x ≠ y := fun h => g_tags (by rw [h])
    simp -implicitDefEqProofs [g_tags, hne]
  simp -implicitDefEqProofs [g_tags]
  have hxy : x = y := by cases x; cases y; simp_all
  simp -implicitDefEqProofs [hxy]
abbrev szDialedS (R : Rel) : Prop := ∀ (x : Dialed) (l : Int), 0 ≤ l → l ≤ 4194304 → lnDialed x → R [arg (eDialed x), I l] [] (I (szl (szDialed x) l)) []
theorem szDialed_b (D : Dn) (hszDeal : szDealS (D 140)) (hszIntS : szIntSS (D 16)) : szDialedS (Body D slaws_szDialed) := by
  intro x l hl1 hl2 hln
  simp only [lnDialed] at hln
  simp -implicitDefEqProofs
  refine callQ_of (hszDeal x.deal (l) (by omega) (by omega) hln.1) ?_
  by_cases g0 : l < ((szDeal x.deal : Nat) : Int)
  · have gg : l < ((szDialed x : Nat) : Int) := by simp only [szDialed]; omega
    have e1 : szl (szDeal x.deal) (l) = -1 := by unfold szl; rw [if_pos g0]
    have e2 : szl (szDialed x) l = -1 := by unfold szl; rw [if_pos gg]
    simp -implicitDefEqProofs [e1, e2]
  have e3 : szl (szDeal x.deal) (l) = l - ((szDeal x.deal : Nat) : Int) := by unfold szl; rw [if_neg g0]
  have p0 : ¬ l - ((szDeal x.deal : Nat) : Int) < 0 := by omega
  simp -implicitDefEqProofs [e3, p0]
  refine callQ_of (hszIntS x.up (l - ((szDeal x.deal : Nat) : Int)) (by omega) (by omega) hln.2) ?_
  by_cases g1 : l - ((szDeal x.deal : Nat) : Int) < ((x.up.length : Nat) : Int)
  · have gg : l < ((szDialed x : Nat) : Int) := by simp only [szDialed]; omega
    have e1 : szl (x.up.length) (l - ((szDeal x.deal : Nat) : Int)) = -1 := by unfold szl; rw [if_pos g1]
    have e2 : szl (szDialed x) l = -1 := by unfold szl; rw [if_pos gg]
    simp -implicitDefEqProofs [e1, e2]
  have e4 : szl (x.up.length) (l - ((szDeal x.deal : Nat) : Int)) = l - ((szDeal x.deal : Nat) : Int) - ((x.up.length : Nat) : Int) := by unfold szl; rw [if_neg g1]
  have p1 : ¬ l - ((szDeal x.deal : Nat) : Int) - ((x.up.length : Nat) : Int) < 0 := by omega
  simp -implicitDefEqProofs [e4, p1]
  have gg : ¬ l < ((szDialed x : Nat) : Int) := by simp only [szDialed]; omega
  unfold szl; rw [if_neg gg]; simp only [szDialed] <;> omega
abbrev toDialedS (R : Rel) : Prop := ∀ x : Dialed, szDialed x ≤ 4194304 → R [arg (eDialed x)] [] (.agg (eDialed x)) []
theorem toDialed_b (D : Dn) (htoDeal : toDealS (D 171)) (htoIntS : toIntSS (D 31)) : toDialedS (Body D slaws_toDialed) := by
  intro x h
  simp only [szDialed] at h
  simp -implicitDefEqProofs
  refine callQ_of (htoDeal x.deal (by omega)) ?_
  simp -implicitDefEqProofs
  refine callQ_of (htoIntS x.up (by omega)) ?_
  simp -implicitDefEqProofs
abbrev eqDialedS (R : Rel) : Prop := ∀ x y : Dialed, szDialed x ≤ 2 ^ 40 → szDialed y ≤ 2 ^ 40 → R [arg (eDialed x), arg (eDialed y)] [] (B (decide (x = y))) []
theorem eqDialed_b (D : Dn) (heqDeal : eqDealS (D 205)) (heqIntS : eqIntSS (D 47)) : eqDialedS (Body D slaws_eqDialed) := by
  intro x y h1 h2
  simp only [szDialed] at h1 h2
  simp -implicitDefEqProofs
  refine callQ_of (heqDeal x.deal y.deal (by omega) (by omega)) ?_
  by_cases g_deal : x.deal = y.deal
  rotate_left
  · have hne : x ≠ y := fun h => g_deal (by rw [h])
    simp -implicitDefEqProofs [g_deal, hne]
  simp -implicitDefEqProofs [g_deal]
  by_cases g_tries : x.tries = y.tries
  rotate_left
  · have hne : x ≠ y := fun h => g_tries (by rw [h])
    simp -implicitDefEqProofs [g_tries, hne]
  simp -implicitDefEqProofs [g_tries]
  refine callQ_of (heqIntS x.up y.up (by unfold maxLen; omega) (by unfold maxLen; omega)) ?_
  by_cases g_up : x.up = y.up
  rotate_left
  · have hne : x ≠ y := fun h => g_up (by rw [h])
    simp -implicitDefEqProofs [g_up, hne]
  simp -implicitDefEqProofs [g_up]
  have hxy : x = y := by cases x; cases y; simp_all
  simp -implicitDefEqProofs [hxy]
end Go.Eng.T

namespace Go.Eng.T
abbrev szDialedSS (R : Rel) : Prop := ∀ (xs : List Dialed) (l : Int), 0 ≤ l → l ≤ 4194304 → lnS lnDialed xs → R [.sl 1 5 xs.length (xs.flatMap eDialed), I l] [] (I (szl (sumF szDialed xs) l)) []
theorem szDialedS_b (D : Dn) (hsz : szDialedS (D 63)) : szDialedSS (Body D slaws_szDialedS) := by
  intro xs l h1 h2 hln
  have h3 := hln.1
  unfold maxLen at h3
  have hw : IntKind.i64.wrap (l - (xs.length : Int)) = l - xs.length := wrap_id (by omega) (by omega)
  by_cases h : l < (xs.length : Int)
  · have h' : l - (xs.length : Int) < 0 := by omega
    have e2 : szl (sumF szDialed xs) l = -1 := by unfold szl sumF; rw [if_pos (by omega)]
    simp -implicitDefEqProofs [hw, h', e2]
  · have h' : ¬ l - (xs.length : Int) < 0 := by omega
    simp -implicitDefEqProofs [hw, h']
    refine swp_loop (fun k s => ∃ j, j + k = xs.length ∧ ((xs.take j).map szDialed).sum + xs.length ≤ l ∧ s = ⟨[.sl 1 5 xs.length (xs.flatMap eDialed), .sc (.int .i64 (l - xs.length - ((((xs.take j).map szDialed).sum : Nat) : Int))), .undef, .sc (.int .i64 j), .undef, .undef, .undef], []⟩) ?_ xs.length _ ⟨0, by simp, by simp; omega, by simp⟩
    intro k s ⟨j, hj, hp, hs⟩
    subst hs
    by_cases hjn : j < xs.length
    · have hw : IntKind.i64.wrap ((j : Int) + 1) = (j + 1 : Nat) := by rw [wrap_id (by omega) (by omega)]; simp
      have ht := sum_take (f := szDialed) hjn
      have htl := sum_take_le (f := szDialed) (xs := xs) (j := j + 1)
      simp -implicitDefEqProofs [hjn, -List.map_take]
      refine callQ_of (hsz xs[j] _ (by omega) (by omega) (hln.2 j hjn)) ?_
      by_cases he : l - xs.length - ((((xs.take j).map szDialed).sum : Nat) : Int) < szDialed xs[j]
      · have e1 : szl (szDialed xs[j]) (l - xs.length - ((((xs.take j).map szDialed).sum : Nat) : Int)) = -1 := by unfold szl; rw [if_pos he]
        have e2 : szl (sumF szDialed xs) l = -1 := by unfold szl sumF; rw [if_pos (by omega)]
        simp -implicitDefEqProofs [e1, e2, -List.map_take]
      · have e1 : szl (szDialed xs[j]) (l - xs.length - ((((xs.take j).map szDialed).sum : Nat) : Int)) = l - xs.length - ((((xs.take j).map szDialed).sum : Nat) : Int) - szDialed xs[j] := by unfold szl; rw [if_neg he]
        have e3 : ¬ l - xs.length - ((((xs.take j).map szDialed).sum : Nat) : Int) - szDialed xs[j] < 0 := by omega
        simp -implicitDefEqProofs [e1, e3, -List.map_take]
        refine ⟨k - 1, by omega, j + 1, by omega, by omega, ?_, by simp [hw]⟩
        rw [ht]; omega
    · have hsm := sum_all (f := szDialed) (xs := xs) (j := j) (by omega)
      have e2 : szl (sumF szDialed xs) l = l - xs.length - ((((xs.take j).map szDialed).sum : Nat) : Int) := by unfold szl sumF; rw [if_neg (by omega)]; omega
      simp -implicitDefEqProofs [hjn, e2, -List.map_take]
abbrev toDialedSS (R : Rel) : Prop := ∀ xs : List Dialed, sumF szDialed xs ≤ 4194304 → R [.sl 1 5 xs.length (xs.flatMap eDialed)] [] (.sl 0 5 xs.length (xs.flatMap eDialed)) []
theorem toDialedS_b (D : Dn) (hto : toDialedS (D 99)) : toDialedSS (Body D slaws_toDialedS) := by
  intro xs h
  have hlen := size_len (f := szDialed) (xs := xs)
  have h1 : ((xs.length : Nat) : Int) * 72 ≤ 1099511627776 := by omega
  simp -implicitDefEqProofs [h1]
  refine swp_loop (fun k s => ∃ j o1 o2, j + k = xs.length ∧ s = ⟨[.sl 1 5 xs.length (xs.flatMap eDialed), .undef, .arr 0, .sc (.int .i64 j), .undef], [.arr 5 0 xs.length ((mix (⟨⟨false, 0, []⟩, 0, []⟩ : Dialed) xs j).flatMap eDialed), o1, o2]⟩) ?_ xs.length _ ⟨0, .free, .free, by simp, by simp [mix_zero]; exact rep_flat (f := eDialed) (⟨⟨false, 0, []⟩, 0, []⟩ : Dialed) _⟩
  intro k s ⟨j, o1, o2, hj, hs⟩
  subst hs
  by_cases hjn : j < xs.length
  · have hw : IntKind.i64.wrap ((j : Int) + 1) = (j + 1 : Nat) := by rw [wrap_id (by omega) (by omega)]; simp
    have hsz := size_at (f := szDialed) hjn
    have hfit : j * 5 + 5 ≤ xs.length * 5 := by omega
    have hjl : j ≤ xs.length := by omega
    simp -implicitDefEqProofs [hjn]
    refine callQ_of (hto xs[j] (by omega)) ?_
    simp -implicitDefEqProofs [hjn, hfit, hjl]
    exact ⟨k - 1, by omega, j + 1, by omega, by simp [hw], by rw [← mix_set hjn]⟩
  · have hje : mix (⟨⟨false, 0, []⟩, 0, []⟩ : Dialed) xs j = xs := mix_all (by omega)
    simp -implicitDefEqProofs [hjn, hje]
abbrev eqDialedSS (R : Rel) : Prop := ∀ xs ys : List Dialed, sumF szDialed xs ≤ 2 ^ 40 → sumF szDialed ys ≤ 2 ^ 40 → R [.sl 1 5 xs.length (xs.flatMap eDialed), .sl 1 5 ys.length (ys.flatMap eDialed)] [] (B (decide (xs = ys))) []
theorem eqDialedS_b (D : Dn) (heq : eqDialedS (D 135)) : eqDialedSS (Body D slaws_eqDialedS) := by
  intro xs ys h1 h2
  have hlen := size_len (f := szDialed) (xs := xs)
  by_cases hl : xs.length = ys.length
  · have hl' : (xs.length : Int) = ys.length := by omega
    simp -implicitDefEqProofs [hl']
    refine swp_loop (fun k s => ∃ j, j + k = xs.length ∧ xs.take j = ys.take j ∧ s = ⟨[.sl 1 5 xs.length (xs.flatMap eDialed), .sl 1 5 ys.length (ys.flatMap eDialed), .undef, .sc (.int .i64 j), .undef, .undef, .undef], []⟩) ?_ xs.length _ ⟨0, by simp, by simp, by simp⟩
    intro k s ⟨j, hj, hp, hs⟩
    subst hs
    by_cases hjn : j < xs.length
    · have hw : IntKind.i64.wrap ((j : Int) + 1) = (j + 1 : Nat) := by rw [wrap_id (by omega) (by omega)]; simp
      have hy : j < ys.length := by omega
      have hsx := size_at (f := szDialed) hjn
      have hsy := size_at (f := szDialed) hy
      simp -implicitDefEqProofs [hjn, hy]
      refine callQ_of (heq xs[j] ys[j] (by omega) (by omega)) ?_
      by_cases he : xs[j] = ys[j]
      · simp -implicitDefEqProofs [he]
        exact ⟨k - 1, by omega, j + 1, by omega, take_step hjn hy hp he, by simp [hw]⟩
      · have hne : xs ≠ ys := fun h => he (by simp [h])
        simp -implicitDefEqProofs [he, hne]
    · obtain rfl : xs = ys := take_all (by omega) hl hp
      simp -implicitDefEqProofs [hjn]
  · have hl' : ¬ (xs.length : Int) = ys.length := by omega
    have : xs ≠ ys := fun h => hl (by rw [h])
    simp -implicitDefEqProofs [hl', this]
abbrev szLoggedS (R : Rel) : Prop := ∀ (x : Logged) (l : Int), 0 ≤ l → l ≤ 4194304 → lnLogged x → R [arg (eLogged x), I l] [] (I (szl (szLogged x) l)) []
theorem szLogged_b (D : Dn) (hszDialed : szDialedS (D 63)) : szLoggedS (Body D slaws_szLogged) := by
  intro x l hl1 hl2 hln
  simp only [lnLogged] at hln
  simp -implicitDefEqProofs
  refine callQ_of (hszDialed x.dialed (l) (by omega) (by omega) hln) ?_
  by_cases g0 : l < ((szDialed x.dialed : Nat) : Int)
  · have gg : l < ((szLogged x : Nat) : Int) := by simp only [szLogged]; omega
    have e1 : szl (szDialed x.dialed) (l) = -1 := by unfold szl; rw [if_pos g0]
    have e2 : szl (szLogged x) l = -1 := by unfold szl; rw [if_pos gg]
    simp -implicitDefEqProofs [e1, e2]
  have e3 : szl (szDialed x.dialed) (l) = l - ((szDialed x.dialed : Nat) : Int) := by unfold szl; rw [if_neg g0]
  have p0 : ¬ l - ((szDialed x.dialed : Nat) : Int) < 0 := by omega
  simp -implicitDefEqProofs [e3, p0]
  have gg : ¬ l < ((szLogged x : Nat) : Int) := by simp only [szLogged]; omega
  unfold szl; rw [if_neg gg]; simp only [szLogged] <;> omega
abbrev toLoggedS (R : Rel) : Prop := ∀ x : Logged, szLogged x ≤ 4194304 → R [arg (eLogged x)] [] (.agg (eLogged x)) []
theorem toLogged_b (D : Dn) (htoDialed : toDialedS (D 99)) : toLoggedS (Body D slaws_toLogged) := by
  intro x h
  simp only [szLogged] at h
  simp -implicitDefEqProofs
  refine callQ_of (htoDialed x.dialed (by omega)) ?_
  simp -implicitDefEqProofs
abbrev eqLoggedS (R : Rel) : Prop := ∀ x y : Logged, szLogged x ≤ 2 ^ 40 → szLogged y ≤ 2 ^ 40 → R [arg (eLogged x), arg (eLogged y)] [] (B (decide (x = y))) []
theorem eqLogged_b (D : Dn) (heqDialed : eqDialedS (D 135)) : eqLoggedS (Body D slaws_eqLogged) := by
  intro x y h1 h2
  simp only [szLogged] at h1 h2
  by_cases g_fin : x.fin = y.fin
  rotate_left
  · have hne : x ≠ y := fun h => g_fin (by rw [h])
    simp -implicitDefEqProofs [g_fin, hne]
  simp -implicitDefEqProofs [g_fin]
  by_cases g_tick : x.tick = y.tick
  rotate_left
  · have hne : x ≠ y := fun h => g_tick (by rw [h])
    simp -implicitDefEqProofs [g_tick, hne]
  simp -implicitDefEqProofs [g_tick]
  by_cases g_on : x.on = y.on
  rotate_left
  · have hne : x ≠ y := fun h => g_on (by rw [h])
    simp -implicitDefEqProofs [g_on, hne]
  simp -implicitDefEqProofs [g_on]
  refine callQ_of (heqDialed x.dialed y.dialed (by omega) (by omega)) ?_
  by_cases g_dialed : x.dialed = y.dialed
  rotate_left
  · have hne : x ≠ y := fun h => g_dialed (by rw [h])
    simp -implicitDefEqProofs [g_dialed, hne]
  simp -implicitDefEqProofs [g_dialed]
  have hxy : x = y := by cases x; cases y; simp_all
  simp -implicitDefEqProofs [hxy]
abbrev szLoggedSS (R : Rel) : Prop := ∀ (xs : List Logged) (l : Int), 0 ≤ l → l ≤ 4194304 → lnS lnLogged xs → R [.sl 1 8 xs.length (xs.flatMap eLogged), I l] [] (I (szl (sumF szLogged xs) l)) []
theorem szLoggedS_b (D : Dn) (hsz : szLoggedS (D 64)) : szLoggedSS (Body D slaws_szLoggedS) := by
  intro xs l h1 h2 hln
  have h3 := hln.1
  unfold maxLen at h3
  have hw : IntKind.i64.wrap (l - (xs.length : Int)) = l - xs.length := wrap_id (by omega) (by omega)
  by_cases h : l < (xs.length : Int)
  · have h' : l - (xs.length : Int) < 0 := by omega
    have e2 : szl (sumF szLogged xs) l = -1 := by unfold szl sumF; rw [if_pos (by omega)]
    simp -implicitDefEqProofs [hw, h', e2]
  · have h' : ¬ l - (xs.length : Int) < 0 := by omega
    simp -implicitDefEqProofs [hw, h']
    refine swp_loop (fun k s => ∃ j, j + k = xs.length ∧ ((xs.take j).map szLogged).sum + xs.length ≤ l ∧ s = ⟨[.sl 1 8 xs.length (xs.flatMap eLogged), .sc (.int .i64 (l - xs.length - ((((xs.take j).map szLogged).sum : Nat) : Int))), .undef, .sc (.int .i64 j), .undef, .undef, .undef], []⟩) ?_ xs.length _ ⟨0, by simp, by simp; omega, by simp⟩
    intro k s ⟨j, hj, hp, hs⟩
    subst hs
    by_cases hjn : j < xs.length
    · have hw : IntKind.i64.wrap ((j : Int) + 1) = (j + 1 : Nat) := by rw [wrap_id (by omega) (by omega)]; simp
      have ht := sum_take (f := szLogged) hjn
      have htl := sum_take_le (f := szLogged) (xs := xs) (j := j + 1)
      simp -implicitDefEqProofs [hjn, -List.map_take]
      refine callQ_of (hsz xs[j] _ (by omega) (by omega) (hln.2 j hjn)) ?_
      by_cases he : l - xs.length - ((((xs.take j).map szLogged).sum : Nat) : Int) < szLogged xs[j]
      · have e1 : szl (szLogged xs[j]) (l - xs.length - ((((xs.take j).map szLogged).sum : Nat) : Int)) = -1 := by unfold szl; rw [if_pos he]
        have e2 : szl (sumF szLogged xs) l = -1 := by unfold szl sumF; rw [if_pos (by omega)]
        simp -implicitDefEqProofs [e1, e2, -List.map_take]
      · have e1 : szl (szLogged xs[j]) (l - xs.length - ((((xs.take j).map szLogged).sum : Nat) : Int)) = l - xs.length - ((((xs.take j).map szLogged).sum : Nat) : Int) - szLogged xs[j] := by unfold szl; rw [if_neg he]
        have e3 : ¬ l - xs.length - ((((xs.take j).map szLogged).sum : Nat) : Int) - szLogged xs[j] < 0 := by omega
        simp -implicitDefEqProofs [e1, e3, -List.map_take]
        refine ⟨k - 1, by omega, j + 1, by omega, by omega, ?_, by simp [hw]⟩
        rw [ht]; omega
    · have hsm := sum_all (f := szLogged) (xs := xs) (j := j) (by omega)
      have e2 : szl (sumF szLogged xs) l = l - xs.length - ((((xs.take j).map szLogged).sum : Nat) : Int) := by unfold szl sumF; rw [if_neg (by omega)]; omega
      simp -implicitDefEqProofs [hjn, e2, -List.map_take]
abbrev toLoggedSS (R : Rel) : Prop := ∀ xs : List Logged, sumF szLogged xs ≤ 4194304 → R [.sl 1 8 xs.length (xs.flatMap eLogged)] [] (.sl 0 8 xs.length (xs.flatMap eLogged)) []
theorem toLoggedS_b (D : Dn) (hto : toLoggedS (D 100)) : toLoggedSS (Body D slaws_toLoggedS) := by
  intro xs h
  have hlen := size_len (f := szLogged) (xs := xs)
  have h1 : ((xs.length : Nat) : Int) * 96 ≤ 1099511627776 := by omega
  simp -implicitDefEqProofs [h1]
  refine swp_loop (fun k s => ∃ j o1 o2, j + k = xs.length ∧ s = ⟨[.sl 1 8 xs.length (xs.flatMap eLogged), .undef, .arr 0, .sc (.int .i64 j), .undef], [.arr 8 0 xs.length ((mix (⟨0, 0, false, ⟨⟨false, 0, []⟩, 0, []⟩⟩ : Logged) xs j).flatMap eLogged), o1, o2]⟩) ?_ xs.length _ ⟨0, .free, .free, by simp, by simp [mix_zero]; exact rep_flat (f := eLogged) (⟨0, 0, false, ⟨⟨false, 0, []⟩, 0, []⟩⟩ : Logged) _⟩
  intro k s ⟨j, o1, o2, hj, hs⟩
  subst hs
  by_cases hjn : j < xs.length
  · have hw : IntKind.i64.wrap ((j : Int) + 1) = (j + 1 : Nat) := by rw [wrap_id (by omega) (by omega)]; simp
    have hsz := size_at (f := szLogged) hjn
    have hfit : j * 8 + 8 ≤ xs.length * 8 := by omega
    have hjl : j ≤ xs.length := by omega
    simp -implicitDefEqProofs [hjn]
    refine callQ_of (hto xs[j] (by omega)) ?_
    simp -implicitDefEqProofs [hjn, hfit, hjl]
    exact ⟨k - 1, by omega, j + 1, by omega, by simp [hw], by rw [← mix_set hjn]⟩
  · have hje : mix (⟨0, 0, false, ⟨⟨false, 0, []⟩, 0, []⟩⟩ : Logged) xs j = xs := mix_all (by omega)
    simp -implicitDefEqProofs [hjn, hje]
abbrev eqLoggedSS (R : Rel) : Prop := ∀ xs ys : List Logged, sumF szLogged xs ≤ 2 ^ 40 → sumF szLogged ys ≤ 2 ^ 40 → R [.sl 1 8 xs.length (xs.flatMap eLogged), .sl 1 8 ys.length (ys.flatMap eLogged)] [] (B (decide (xs = ys))) []
theorem eqLoggedS_b (D : Dn) (heq : eqLoggedS (D 136)) : eqLoggedSS (Body D slaws_eqLoggedS) := by
  intro xs ys h1 h2
  have hlen := size_len (f := szLogged) (xs := xs)
  by_cases hl : xs.length = ys.length
  · have hl' : (xs.length : Int) = ys.length := by omega
    simp -implicitDefEqProofs [hl']
    refine swp_loop (fun k s => ∃ j, j + k = xs.length ∧ xs.take j = ys.take j ∧ s = ⟨[.sl 1 8 xs.length (xs.flatMap eLogged), .sl 1 8 ys.length (ys.flatMap eLogged), .undef, .sc (.int .i64 j), .undef, .undef, .undef], []⟩) ?_ xs.length _ ⟨0, by simp, by simp, by simp⟩
    intro k s ⟨j, hj, hp, hs⟩
    subst hs
    by_cases hjn : j < xs.length
    · have hw : IntKind.i64.wrap ((j : Int) + 1) = (j + 1 : Nat) := by rw [wrap_id (by omega) (by omega)]; simp
      have hy : j < ys.length := by omega
      have hsx := size_at (f := szLogged) hjn
      have hsy := size_at (f := szLogged) hy
      simp -implicitDefEqProofs [hjn, hy]
      refine callQ_of (heq xs[j] ys[j] (by omega) (by omega)) ?_
      by_cases he : xs[j] = ys[j]
      · simp -implicitDefEqProofs [he]
        exact ⟨k - 1, by omega, j + 1, by omega, take_step hjn hy hp he, by simp [hw]⟩
      · have hne : xs ≠ ys := fun h => he (by simp [h])
        simp -implicitDefEqProofs [he, hne]
    · obtain rfl : xs = ys := take_all (by omega) hl hp
      simp -implicitDefEqProofs [hjn]
  · have hl' : ¬ (xs.length : Int) = ys.length := by omega
    have : xs ≠ ys := fun h => hl (by rw [h])
    simp -implicitDefEqProofs [hl', this]
end Go.Eng.T

namespace Go.Eng.T
set_option maxRecDepth 20000
abbrev szWorldS (R : Rel) : Prop := ∀ (x : World) (l : Int), 0 ≤ l → l ≤ 4194304 → lnWorld x → R [arg (eWorld x), I l] [] (I (szl (szWorld x) l)) []
theorem szWorld_b (D : Dn) (hszIntS : szIntSS (D 16)) (hszEndpointS : szEndpointSS (D 17)) (hszRollout : szRolloutS (D 18)) (hszDialedS : szDialedSS (D 19)) (hszLoggedS : szLoggedSS (D 20)) : szWorldS (Body D slaws_szWorld) := by
  intro x l hl1 hl2 hln
  simp only [lnWorld] at hln
  simp -implicitDefEqProofs
  refine callQ_of (hszIntS x.server (l) (by omega) (by omega) hln.1) ?_
  by_cases g0 : l < ((x.server.length : Nat) : Int)
  · have gg : l < ((szWorld x : Nat) : Int) := by simp only [szWorld]; omega
    have e1 : szl (x.server.length) (l) = -1 := by unfold szl; rw [if_pos g0]
    have e2 : szl (szWorld x) l = -1 := by unfold szl; rw [if_pos gg]
    simp -implicitDefEqProofs [e1, e2]
  have e3 : szl (x.server.length) (l) = l - ((x.server.length : Nat) : Int) := by unfold szl; rw [if_neg g0]
  have p0 : ¬ l - ((x.server.length : Nat) : Int) < 0 := by omega
  simp -implicitDefEqProofs [e3, p0]
  refine callQ_of (hszIntS x.tags (l - ((x.server.length : Nat) : Int)) (by omega) (by omega) hln.2.1) ?_
  by_cases g1 : l - ((x.server.length : Nat) : Int) < ((x.tags.length : Nat) : Int)
  · have gg : l < ((szWorld x : Nat) : Int) := by simp only [szWorld]; omega
    have e1 : szl (x.tags.length) (l - ((x.server.length : Nat) : Int)) = -1 := by unfold szl; rw [if_pos g1]
    have e2 : szl (szWorld x) l = -1 := by unfold szl; rw [if_pos gg]
    simp -implicitDefEqProofs [e1, e2]
  have e4 : szl (x.tags.length) (l - ((x.server.length : Nat) : Int)) = l - ((x.server.length : Nat) : Int) - ((x.tags.length : Nat) : Int) := by unfold szl; rw [if_neg g1]
  have p1 : ¬ l - ((x.server.length : Nat) : Int) - ((x.tags.length : Nat) : Int) < 0 := by omega
  simp -implicitDefEqProofs [e4, p1]
  refine callQ_of (hszEndpointS x.ends (l - ((x.server.length : Nat) : Int) - ((x.tags.length : Nat) : Int)) (by omega) (by omega) hln.2.2.1) ?_
  by_cases g2 : l - ((x.server.length : Nat) : Int) - ((x.tags.length : Nat) : Int) < ((sumF szEndpoint x.ends : Nat) : Int)
  · have gg : l < ((szWorld x : Nat) : Int) := by simp only [szWorld]; omega
    have e1 : szl (sumF szEndpoint x.ends) (l - ((x.server.length : Nat) : Int) - ((x.tags.length : Nat) : Int)) = -1 := by unfold szl; rw [if_pos g2]
    have e2 : szl (szWorld x) l = -1 := by unfold szl; rw [if_pos gg]
    simp -implicitDefEqProofs [e1, e2]
  have e5 : szl (sumF szEndpoint x.ends) (l - ((x.server.length : Nat) : Int) - ((x.tags.length : Nat) : Int)) = l - ((x.server.length : Nat) : Int) - ((x.tags.length : Nat) : Int) - ((sumF szEndpoint x.ends : Nat) : Int) := by unfold szl; rw [if_neg g2]
  have p2 : ¬ l - ((x.server.length : Nat) : Int) - ((x.tags.length : Nat) : Int) - ((sumF szEndpoint x.ends : Nat) : Int) < 0 := by omega
  simp -implicitDefEqProofs [e5, p2]
  refine callQ_of (hszRollout x.rollout (l - ((x.server.length : Nat) : Int) - ((x.tags.length : Nat) : Int) - ((sumF szEndpoint x.ends : Nat) : Int)) (by omega) (by omega) hln.2.2.2.1) ?_
  by_cases g3 : l - ((x.server.length : Nat) : Int) - ((x.tags.length : Nat) : Int) - ((sumF szEndpoint x.ends : Nat) : Int) < ((szRollout x.rollout : Nat) : Int)
  · have gg : l < ((szWorld x : Nat) : Int) := by simp only [szWorld]; omega
    have e1 : szl (szRollout x.rollout) (l - ((x.server.length : Nat) : Int) - ((x.tags.length : Nat) : Int) - ((sumF szEndpoint x.ends : Nat) : Int)) = -1 := by unfold szl; rw [if_pos g3]
    have e2 : szl (szWorld x) l = -1 := by unfold szl; rw [if_pos gg]
    simp -implicitDefEqProofs [e1, e2]
  have e6 : szl (szRollout x.rollout) (l - ((x.server.length : Nat) : Int) - ((x.tags.length : Nat) : Int) - ((sumF szEndpoint x.ends : Nat) : Int)) = l - ((x.server.length : Nat) : Int) - ((x.tags.length : Nat) : Int) - ((sumF szEndpoint x.ends : Nat) : Int) - ((szRollout x.rollout : Nat) : Int) := by unfold szl; rw [if_neg g3]
  have p3 : ¬ l - ((x.server.length : Nat) : Int) - ((x.tags.length : Nat) : Int) - ((sumF szEndpoint x.ends : Nat) : Int) - ((szRollout x.rollout : Nat) : Int) < 0 := by omega
  simp -implicitDefEqProofs [e6, p3]
  refine callQ_of (hszDialedS x.stage (l - ((x.server.length : Nat) : Int) - ((x.tags.length : Nat) : Int) - ((sumF szEndpoint x.ends : Nat) : Int) - ((szRollout x.rollout : Nat) : Int)) (by omega) (by omega) hln.2.2.2.2.1) ?_
  by_cases g4 : l - ((x.server.length : Nat) : Int) - ((x.tags.length : Nat) : Int) - ((sumF szEndpoint x.ends : Nat) : Int) - ((szRollout x.rollout : Nat) : Int) < ((sumF szDialed x.stage : Nat) : Int)
  · have gg : l < ((szWorld x : Nat) : Int) := by simp only [szWorld]; omega
    have e1 : szl (sumF szDialed x.stage) (l - ((x.server.length : Nat) : Int) - ((x.tags.length : Nat) : Int) - ((sumF szEndpoint x.ends : Nat) : Int) - ((szRollout x.rollout : Nat) : Int)) = -1 := by unfold szl; rw [if_pos g4]
    have e2 : szl (szWorld x) l = -1 := by unfold szl; rw [if_pos gg]
    simp -implicitDefEqProofs [e1, e2]
  have e7 : szl (sumF szDialed x.stage) (l - ((x.server.length : Nat) : Int) - ((x.tags.length : Nat) : Int) - ((sumF szEndpoint x.ends : Nat) : Int) - ((szRollout x.rollout : Nat) : Int)) = l - ((x.server.length : Nat) : Int) - ((x.tags.length : Nat) : Int) - ((sumF szEndpoint x.ends : Nat) : Int) - ((szRollout x.rollout : Nat) : Int) - ((sumF szDialed x.stage : Nat) : Int) := by unfold szl; rw [if_neg g4]
  have p4 : ¬ l - ((x.server.length : Nat) : Int) - ((x.tags.length : Nat) : Int) - ((sumF szEndpoint x.ends : Nat) : Int) - ((szRollout x.rollout : Nat) : Int) - ((sumF szDialed x.stage : Nat) : Int) < 0 := by omega
  simp -implicitDefEqProofs [e7, p4]
  refine callQ_of (hszLoggedS x.log (l - ((x.server.length : Nat) : Int) - ((x.tags.length : Nat) : Int) - ((sumF szEndpoint x.ends : Nat) : Int) - ((szRollout x.rollout : Nat) : Int) - ((sumF szDialed x.stage : Nat) : Int)) (by omega) (by omega) hln.2.2.2.2.2) ?_
  by_cases g5 : l - ((x.server.length : Nat) : Int) - ((x.tags.length : Nat) : Int) - ((sumF szEndpoint x.ends : Nat) : Int) - ((szRollout x.rollout : Nat) : Int) - ((sumF szDialed x.stage : Nat) : Int) < ((sumF szLogged x.log : Nat) : Int)
  · have gg : l < ((szWorld x : Nat) : Int) := by simp only [szWorld]; omega
    have e1 : szl (sumF szLogged x.log) (l - ((x.server.length : Nat) : Int) - ((x.tags.length : Nat) : Int) - ((sumF szEndpoint x.ends : Nat) : Int) - ((szRollout x.rollout : Nat) : Int) - ((sumF szDialed x.stage : Nat) : Int)) = -1 := by unfold szl; rw [if_pos g5]
    have e2 : szl (szWorld x) l = -1 := by unfold szl; rw [if_pos gg]
    simp -implicitDefEqProofs [e1, e2]
  have e8 : szl (sumF szLogged x.log) (l - ((x.server.length : Nat) : Int) - ((x.tags.length : Nat) : Int) - ((sumF szEndpoint x.ends : Nat) : Int) - ((szRollout x.rollout : Nat) : Int) - ((sumF szDialed x.stage : Nat) : Int)) = l - ((x.server.length : Nat) : Int) - ((x.tags.length : Nat) : Int) - ((sumF szEndpoint x.ends : Nat) : Int) - ((szRollout x.rollout : Nat) : Int) - ((sumF szDialed x.stage : Nat) : Int) - ((sumF szLogged x.log : Nat) : Int) := by unfold szl; rw [if_neg g5]
  have p5 : ¬ l - ((x.server.length : Nat) : Int) - ((x.tags.length : Nat) : Int) - ((sumF szEndpoint x.ends : Nat) : Int) - ((szRollout x.rollout : Nat) : Int) - ((sumF szDialed x.stage : Nat) : Int) - ((sumF szLogged x.log : Nat) : Int) < 0 := by omega
  simp -implicitDefEqProofs [e8, p5]
  have gg : ¬ l < ((szWorld x : Nat) : Int) := by simp only [szWorld]; omega
  unfold szl; rw [if_neg gg]; simp only [szWorld] <;> omega
abbrev toWorldS (R : Rel) : Prop := ∀ x : World, szWorld x ≤ 4194304 → R [arg (eWorld x)] [] (.agg (eWorld x)) []
theorem toWorld_b (D : Dn) (htoIntS : toIntSS (D 31)) (htoEndpointS : toEndpointSS (D 32)) (htoRollout : toRolloutS (D 33)) (htoDialedS : toDialedSS (D 34)) (htoLoggedS : toLoggedSS (D 35)) : toWorldS (Body D slaws_toWorld) := by
  intro x h
  simp only [szWorld] at h
  simp -implicitDefEqProofs
  refine callQ_of (htoIntS x.server (by omega)) ?_
  simp -implicitDefEqProofs
  refine callQ_of (htoIntS x.tags (by omega)) ?_
  simp -implicitDefEqProofs
  refine callQ_of (htoEndpointS x.ends (by omega)) ?_
  simp -implicitDefEqProofs
  refine callQ_of (htoRollout x.rollout (by omega)) ?_
  simp -implicitDefEqProofs
  refine callQ_of (htoDialedS x.stage (by omega)) ?_
  simp -implicitDefEqProofs
  refine callQ_of (htoLoggedS x.log (by omega)) ?_
  simp -implicitDefEqProofs
abbrev eqWorldS (R : Rel) : Prop := ∀ x y : World, szWorld x ≤ 2 ^ 40 → szWorld y ≤ 2 ^ 40 → R [arg (eWorld x), arg (eWorld y)] [] (B (decide (x = y))) []
theorem eqWorld_b (D : Dn) (heqIntS : eqIntSS (D 47)) (heqEndpointS : eqEndpointSS (D 48)) (heqRollout : eqRolloutS (D 49)) (heqDialedS : eqDialedSS (D 50)) (heqLoggedS : eqLoggedSS (D 51)) : eqWorldS (Body D slaws_eqWorld) := by
  intro x y h1 h2
  simp only [szWorld] at h1 h2
  simp -implicitDefEqProofs
  refine callQ_of (heqIntS x.server y.server (by unfold maxLen; omega) (by unfold maxLen; omega)) ?_
  by_cases g_server : x.server = y.server
  rotate_left
  · have hne : x ≠ y := fun h => g_server (by rw [h])
    simp -implicitDefEqProofs [g_server, hne]
  simp -implicitDefEqProofs [g_server]
  refine callQ_of (heqIntS x.tags y.tags (by unfold maxLen; omega) (by unfold maxLen; omega)) ?_
  by_cases g_tags : x.tags = y.tags
  rotate_left
  · have hne : x ≠ y := fun h => g_tags (by rw [h])
    simp -implicitDefEqProofs [g_tags, hne]
  simp -implicitDefEqProofs [g_tags]
  by_cases g_key : x.key = y.key
  rotate_left
  · have hne : x ≠ y := fun h => g_key (by rw [h])
    simp -implicitDefEqProofs [g_key, hne]
  simp -implicitDefEqProofs [g_key]
  refine callQ_of (heqEndpointS x.ends y.ends (by omega) (by omega)) ?_
  by_cases g_ends : x.ends = y.ends
  rotate_left
  · have hne : x ≠ y := fun h => g_ends (by rw [h])
    simp -implicitDefEqProofs [g_ends, hne]
  simp -implicitDefEqProofs [g_ends]
  refine callQ_of (heqRollout x.rollout y.rollout (by omega) (by omega)) ?_
  by_cases g_rollout : x.rollout = y.rollout
  rotate_left
  · have hne : x ≠ y := fun h => g_rollout (by rw [h])
    simp -implicitDefEqProofs [g_rollout, hne]
  simp -implicitDefEqProofs [g_rollout]
  by_cases g_least : x.least = y.least
  rotate_left
  · have hne : x ≠ y := fun h => g_least (by rw [h])
    simp -implicitDefEqProofs [g_least, hne]
  simp -implicitDefEqProofs [g_least]
  by_cases g_percent : x.percent = y.percent
  rotate_left
  · have hne : x ≠ y := fun h => g_percent (by rw [h])
    simp -implicitDefEqProofs [g_percent, hne]
  simp -implicitDefEqProofs [g_percent]
  refine callQ_of (heqDialedS x.stage y.stage (by omega) (by omega)) ?_
  by_cases g_stage : x.stage = y.stage
  rotate_left
  · have hne : x ≠ y := fun h => g_stage (by rw [h])
    simp -implicitDefEqProofs [g_stage, hne]
  simp -implicitDefEqProofs [g_stage]
  refine callQ_of (heqLoggedS x.log y.log (by omega) (by omega)) ?_
  by_cases g_log : x.log = y.log
  rotate_left
  · have hne : x ≠ y := fun h => g_log (by rw [h])
    simp -implicitDefEqProofs [g_log, hne]
  simp -implicitDefEqProofs [g_log]
  by_cases g_now : x.now = y.now
  rotate_left
  · have hne : x ≠ y := fun h => g_now (by rw [h])
    simp -implicitDefEqProofs [g_now, hne]
  simp -implicitDefEqProofs [g_now]
  by_cases g_hurt : x.hurt = y.hurt
  rotate_left
  · have hne : x ≠ y := fun h => g_hurt (by rw [h])
    simp -implicitDefEqProofs [g_hurt, hne]
  simp -implicitDefEqProofs [g_hurt]
  by_cases g_reached : x.reached = y.reached
  rotate_left
  · have hne : x ≠ y := fun h => g_reached (by rw [h])
    simp -implicitDefEqProofs [g_reached, hne]
  simp -implicitDefEqProofs [g_reached]
  have hxy : x = y := by cases x; cases y; simp_all
  simp -implicitDefEqProofs [hxy]
end Go.Eng.T

namespace Go.Eng.T

theorem not_mem_step {xs : List Int} {v : Int} {j : Nat} (h : j < xs.length) (hp : v ∉ xs.take j) (hv : ¬ xs[j] = v) : v ∉ xs.take (j + 1) := by
  rw [List.take_add_one, List.getElem?_eq_getElem h]
  intro hm
  rcases List.mem_append.1 hm with hm | hm
  · exact hp hm
  · simp at hm; exact hv hm.symm
theorem not_mem_all {xs : List Int} {v : Int} {j : Nat} (h : xs.length ≤ j) (hp : v ∉ xs.take j) : v ∉ xs := by rwa [List.take_of_length_le h] at hp
theorem mem_here {xs : List Int} {v : Int} {j : Nat} (h : j < xs.length) (hv : xs[j] = v) : v ∈ xs := by rw [← hv]; exact List.getElem_mem h

/-- where v stands first, or -1 -/
def idxI (xs : List Int) (v : Int) : Int := if v ∈ xs then (xs.idxOf v : Nat) else -1
theorem idxI_hit {xs : List Int} {v : Int} {j : Nat} (h : j < xs.length) (hp : v ∉ xs.take j) (hv : xs[j] = v) : idxI xs v = j := by
  unfold idxI
  rw [if_pos (mem_here h hv)]
  congr 1
  have e : xs = xs.take j ++ v :: xs.drop (j + 1) := by
    conv => lhs; rw [← List.take_append_drop j xs, List.drop_eq_getElem_cons h, hv]
  rw [e, List.idxOf_append, if_neg hp]
  simp
  omega
theorem idxI_ge {xs : List Int} {v : Int} : (0 ≤ idxI xs v) = (v ∈ xs) := by
  unfold idxI
  by_cases h : v ∈ xs <;> simp [h]

abbrev IndexS (R : Rel) : Prop := ∀ (xs : List Int) (v : Int), xs.length ≤ maxLen → R [.sl 1 1 xs.length (ints xs), I v] [] (I (idxI xs v)) []
theorem Index_b (D : Dn) : IndexS (Body D sslices_Index___int_int_) := by
  intro xs v hl
  unfold maxLen at hl
  simp -implicitDefEqProofs
  refine swp_loop (fun k s => ∃ j, j + k = xs.length ∧ v ∉ xs.take j ∧ s = ⟨[.sl 1 1 xs.length (ints xs), .sc (.int .i64 v), .undef, .undef, .sc (.int .i64 xs.length), .sc (.int .i64 j), .undef, .undef], []⟩) ?_ xs.length _ ⟨0, by simp, by simp, by simp⟩
  intro k s ⟨j, hj, hp, hs⟩
  subst hs
  by_cases hjn : j < xs.length
  · have hw : IntKind.i64.wrap ((j : Int) + 1) = (j + 1 : Nat) := by rw [wrap_id (by omega) (by omega)]; simp
    by_cases he : v = xs[j]
    · have hx := idxI_hit hjn hp he.symm
      simp -implicitDefEqProofs [hjn, ← he, hx]
    · simp -implicitDefEqProofs [hjn, he]
      exact ⟨k - 1, by omega, j + 1, by omega, not_mem_step hjn hp (fun h => he h.symm), by simp [hw]⟩
  · have hx : idxI xs v = -1 := by unfold idxI; rw [if_neg (not_mem_all (by omega) hp)]
    simp -implicitDefEqProofs [hjn, hx]

abbrev HasS (R : Rel) : Prop := ∀ (xs : List Int) (v : Int), xs.length ≤ maxLen → R [.sl 1 1 xs.length (ints xs), I v] [] (B (decide (v ∈ xs))) []
theorem Contains_b (D : Dn) (hI : IndexS (D 389)) : HasS (Body D sslices_Contains___int_int_) := by
  intro xs v hl
  simp -implicitDefEqProofs
  refine callQ_of (hI xs v hl) ?_
  simp -implicitDefEqProofs [idxI_ge]
theorem l9Has_b (D : Dn) : HasS (Body D sspec_l9Has) := by
  intro xs v hl
  unfold maxLen at hl
  simp -implicitDefEqProofs
  refine swp_loop (fun k s => ∃ j, j + k = xs.length ∧ v ∉ xs.take j ∧ s = ⟨[.sl 1 1 xs.length (ints xs), .sc (.int .i64 v), .undef, .sc (.int .i64 j), .undef, .undef], []⟩) ?_ xs.length _ ⟨0, by simp, by simp, by simp⟩
  intro k s ⟨j, hj, hp, hs⟩
  subst hs
  by_cases hjn : j < xs.length
  · have hw : IntKind.i64.wrap ((j : Int) + 1) = (j + 1 : Nat) := by rw [wrap_id (by omega) (by omega)]; simp
    by_cases he : xs[j] = v
    · have hx := mem_here hjn he
      simp -implicitDefEqProofs [hjn, he, hx]
    · simp -implicitDefEqProofs [hjn, he]
      exact ⟨k - 1, by omega, j + 1, by omega, not_mem_step hjn hp he, by simp [hw]⟩
  · have hx := not_mem_all (by omega) hp
    simp -implicitDefEqProofs [hjn, hx]

/-- a dial that says that the version did not come through -/
def badD (v : Int) (d : Dialed) : Bool := !d.deal.ok || (decide (d.deal.version < v) && decide (v ∈ d.up))
def goodD (v : Int) (d : Dialed) : Bool := !badD v d && decide (v ≤ d.deal.version)
def cntF {α : Type} (f : α → Bool) (xs : List α) : Nat := (xs.filter f).length
theorem cnt_step {α : Type} {f : α → Bool} {xs : List α} {j : Nat} (h : j < xs.length) : cntF f (xs.take (j + 1)) = cntF f (xs.take j) + (if f xs[j] then 1 else 0) := by
  unfold cntF
  rw [List.take_add_one, List.getElem?_eq_getElem h, List.filter_append, List.length_append]
  congr 1
  by_cases hf : f xs[j] <;> simp [hf]
theorem cnt_le {α : Type} {f : α → Bool} {xs : List α} {j : Nat} (h : j ≤ xs.length) : cntF f (xs.take j) ≤ j := by
  unfold cntF
  have := List.length_filter_le f (xs.take j)
  simp at this
  omega
theorem cnt_all {α : Type} {f : α → Bool} {xs : List α} {j : Nat} (h : xs.length ≤ j) : cntF f (xs.take j) = cntF f xs := by rw [List.take_of_length_le h]

abbrev CountKindS (R : Rel) : Prop := ∀ (xs : List Event) (v : Int), xs.length ≤ maxLen → R [.sl 1 6 xs.length (xs.flatMap eEvent), I v] [] (I (cntF (fun e => decide (e.kind = v)) xs)) []
end Go.Eng.T

namespace Go.Eng.T

abbrev MaskedByS (R : Rel) : Prop := ∀ (xs : List Dialed) (v : Int), xs.length ≤ maxLen → (∀ (j : Nat) (h : j < xs.length), xs[j].up.length ≤ maxLen) →
  R [.sl 1 5 xs.length (xs.flatMap eDialed), I v] [] (.tup [I (cntF (goodD v) xs), I (cntF (badD v) xs)]) []
theorem sMaskedBy_b (D : Dn) (hH : HasS (D 166)) : MaskedByS (Body D sspec_MaskedBy) := by
  intro xs v hl hu
  unfold maxLen at hl
  simp -implicitDefEqProofs
  refine swp_loop (fun k s => ∃ j o0, j + k = xs.length ∧ s = ⟨[.sl 1 5 xs.length (xs.flatMap eDialed), .sc (.int .i64 v), .undef, .undef, .sc (.int .i64 (cntF (goodD v) (xs.take j))), .sc (.int .i64 (cntF (badD v) (xs.take j))), .sc (.int .i64 j), .undef, .undef, .undef, .undef], [o0]⟩) ?_ xs.length _ ⟨0, .free, by simp, by simp [cntF]⟩
  intro k s ⟨j, o0, hj, hs⟩
  subst hs
  by_cases hjn : j < xs.length
  · have hw : IntKind.i64.wrap ((j : Int) + 1) = (j + 1 : Nat) := by rw [wrap_id (by omega) (by omega)]; simp
    have hc := cnt_step (f := goodD v) hjn
    have hb := cnt_step (f := badD v) hjn
    have hcl := cnt_le (f := goodD v) (xs := xs) (j := j) (by omega)
    have hbl := cnt_le (f := badD v) (xs := xs) (j := j) (by omega)
    have hw2 : IntKind.i64.wrap ((cntF (goodD v) (xs.take j) : Int) + 1) = (cntF (goodD v) (xs.take j) + 1 : Nat) := by rw [wrap_id (by omega) (by omega)]; simp
    have hw3 : IntKind.i64.wrap ((cntF (badD v) (xs.take j) : Int) + 1) = (cntF (badD v) (xs.take j) + 1 : Nat) := by rw [wrap_id (by omega) (by omega)]; simp
    have fin : ∀ (a b : Bool), goodD v xs[j] = a → badD v xs[j] = b → ∀ x y : Int, x = ((cntF (goodD v) (xs.take j) + (if a then 1 else 0) : Nat) : Int) → y = ((cntF (badD v) (xs.take j) + (if b then 1 else 0) : Nat) : Int) →
        x = cntF (goodD v) (xs.take (j + 1)) ∧ y = cntF (badD v) (xs.take (j + 1)) := by
      intro a b ha hb' x y hx hy
      rw [hc, hb, ha, hb']
      exact ⟨hx, hy⟩
    by_cases h1 : xs[j].deal.ok = true
    · by_cases h2 : xs[j].deal.version < v
      · simp -implicitDefEqProofs [hjn, h1, h2]
        refine callQ_of (hH xs[j].up v (hu j hjn)) ?_
        by_cases h3 : v ∈ xs[j].up
        · have g := fin false true (by simp [goodD, badD, h1, h2, h3]) (by simp [badD, h1, h2, h3]) _ _ rfl rfl
          simp -implicitDefEqProofs [h3]
          exact ⟨k - 1, by omega, j + 1, by omega, by simpa using g.1, by rw [hw3]; simpa using g.2, by simp [hw]⟩
        · have h4 : ¬ v ≤ xs[j].deal.version := by omega
          have g := fin false false (by simp [goodD, badD, h1, h2, h3, h4]) (by simp [badD, h1, h2, h3]) _ _ rfl rfl
          simp -implicitDefEqProofs [h3, h4]
          exact ⟨k - 1, by omega, j + 1, by omega, by simpa using g.1, by simpa using g.2, by simp [hw]⟩
      · have h4 : v ≤ xs[j].deal.version := by omega
        have g := fin true false (by simp [goodD, badD, h1, h2, h4]) (by simp [badD, h1, h2]) _ _ rfl rfl
        simp -implicitDefEqProofs [hjn, h1, h2, h4]
        exact ⟨k - 1, by omega, j + 1, by omega, by rw [hw2]; simpa using g.1, by simpa using g.2, by simp [hw]⟩
    · have g := fin false true (by simp [goodD, badD, h1]) (by simp [badD, h1]) _ _ rfl rfl
      simp -implicitDefEqProofs [hjn, h1]
      exact ⟨k - 1, by omega, j + 1, by omega, by simpa using g.1, by rw [hw3]; simpa using g.2, by simp [hw]⟩
  · have hx := cnt_all (f := goodD v) (xs := xs) (j := j) (by omega)
    have hy := cnt_all (f := badD v) (xs := xs) (j := j) (by omega)
    simp -implicitDefEqProofs [hjn, hx, hy]

abbrev IsBadDialS (R : Rel) : Prop := ∀ (d : Dialed) (v : Int), d.up.length ≤ maxLen → R [arg (eDialed d), I v] [] (B (badD v d)) []
theorem sIsBadDial_b (D : Dn) (hM : MaskedByS (D 155)) : IsBadDialS (Body D sspec_IsBadDial) := by
  intro d v hu
  simp -implicitDefEqProofs
  refine callQ_of (hM [d] v (by unfold maxLen; simp) (fun j h => by obtain rfl : j = 0 := by simpa using h
                                                                    exact hu)) ?_
  by_cases h : badD v d <;> simp -implicitDefEqProofs [cntF, h]
theorem isBad_b (D : Dn) (hH : HasS (D 188)) : IsBadDialS (Body D simpl_isBad) := by
  intro d v hu
  by_cases h1 : d.deal.ok = true
  · by_cases h2 : d.deal.version < v
    · simp -implicitDefEqProofs [h1, h2]
      refine callQ_of (hH d.up v hu) ?_
      simp -implicitDefEqProofs [badD, h1, h2]
    · simp -implicitDefEqProofs [h1, h2, badD]
  · simp -implicitDefEqProofs [h1, badD]
theorem iIsBadDial_b (D : Dn) (hB : IsBadDialS (D 229)) : IsBadDialS (Body D simpl_IsBadDial) := by
  intro d v hu
  simp -implicitDefEqProofs
  refine callQ_of (hB d v hu) ?_
  simp -implicitDefEqProofs
end Go.Eng.T

namespace Go.Eng.T

/-- the numbers from k on -/
def nums : Nat → Int → List Int
  | 0, _ => []
  | n + 1, k => k :: nums n (k + 1)
@[simp] theorem nums_len : ∀ (n : Nat) (k : Int), (nums n k).length = n
  | 0, _ => rfl
  | n + 1, k => by simp [nums, nums_len n]
theorem nums_get : ∀ (n : Nat) (k : Int) (j : Nat) (h : j < (nums n k).length), (nums n k)[j] = k + j
  | 0, k, j, h => by simp [nums] at h
  | n + 1, k, 0, h => by simp [nums]
  | n + 1, k, j + 1, h => by
    simp only [nums, List.getElem_cons_succ]
    rw [nums_get n (k + 1) j (by simpa [nums] using h)]
    simp; omega

/-- a row marked element by element -/
def mkL {α : Type} (mc : α → Nat) (mk : α → Int → α) : List α → Int → List α
  | [], _ => []
  | x :: r, k => mk x k :: mkL mc mk r (k + mc x)
def mcL {α : Type} (mc : α → Nat) (xs : List α) : Nat := (xs.map mc).sum
section
variable {α : Type} {mc : α → Nat} {mk : α → Int → α}
@[simp] theorem mkL_len : ∀ (xs : List α) (k : Int), (mkL mc mk xs k).length = xs.length
  | [], _ => rfl
  | x :: r, k => by simp [mkL, mkL_len r]
theorem mkL_get : ∀ (xs : List α) (k : Int) (j : Nat) (h : j < xs.length), (mkL mc mk xs k)[j]'(by simpa using h) = mk xs[j] (k + (mcL mc (xs.take j) : Nat))
  | [], k, j, h => by simp at h
  | x :: r, k, 0, h => by simp [mkL, mcL]
  | x :: r, k, j + 1, h => by
    simp only [mkL, List.getElem_cons_succ]
    rw [mkL_get r (k + mc x) j (by simpa using h)]
    simp [mcL]; congr 1; omega
theorem mkL_append (ys : List α) : ∀ (xs : List α) (k : Int), mkL mc mk (xs ++ ys) k = mkL mc mk xs k ++ mkL mc mk ys (k + (mcL mc xs : Nat))
  | [], k => by simp [mkL, mcL]
  | x :: r, k => by
    simp only [List.cons_append, mkL, mkL_append ys r]
    simp [mcL]; congr 1; omega
/-- under way -/
def mkJ (mc : α → Nat) (mk : α → Int → α) (xs : List α) (k : Int) (j : Nat) : List α := mkL mc mk (xs.take j) k ++ xs.drop j
theorem mkJ_zero {xs : List α} {k : Int} : mkJ mc mk xs k 0 = xs := by simp [mkJ, mkL]
theorem mkJ_all {xs : List α} {k : Int} {j : Nat} (h : xs.length ≤ j) : mkJ mc mk xs k j = mkL mc mk xs k := by simp [mkJ, List.take_of_length_le h, List.drop_eq_nil_of_le h]
@[simp] theorem mkJ_len {xs : List α} {k : Int} {j : Nat} (h : j ≤ xs.length) : (mkJ mc mk xs k j).length = xs.length := by simp [mkJ]; omega
theorem mkJ_get {xs : List α} {k : Int} {j : Nat} (h : j < xs.length) : (mkJ mc mk xs k j)[j]'(by rw [mkJ_len (by omega)]; exact h) = xs[j] := by
  unfold mkJ
  have hl : (mkL mc mk (xs.take j) k).length = j := by simp; omega
  rw [List.getElem_append_right (by omega)]
  simp [hl]
theorem mkJ_set {xs : List α} {k : Int} {j : Nat} (h : j < xs.length) : (mkJ mc mk xs k j).set j (mk xs[j] (k + (mcL mc (xs.take j) : Nat))) = mkJ mc mk xs k (j + 1) := by
  unfold mkJ
  have hl : (mkL mc mk (xs.take j) k).length = j := by simp; omega
  have ht : xs.take (j + 1) = xs.take j ++ [xs[j]] := by simp
  rw [List.set_append_right _ _ (by omega), hl, Nat.sub_self, ht, mkL_append, List.drop_eq_getElem_cons h, List.set_cons_zero, List.append_assoc]
  rfl
theorem mcL_step {xs : List α} {j : Nat} (h : j < xs.length) : mcL mc (xs.take (j + 1)) = mcL mc (xs.take j) + mc xs[j] := sum_take h
theorem mcL_le {xs : List α} {j : Nat} : mcL mc (xs.take j) ≤ mcL mc xs := sum_take_le
theorem mcL_all {xs : List α} {j : Nat} (h : xs.length ≤ j) : mcL mc (xs.take j) = mcL mc xs := sum_all h
theorem mcL_ge (h : ∀ x, 1 ≤ mc x) (xs : List α) : xs.length ≤ mcL mc xs := by
  induction xs with
  | nil => simp
  | cons x r ih =>
    have := h x
    simp [mcL] at *
    omega
end
theorem set_flat {α : Type} {f : α → List V} {e : Nat} (hf : ∀ x, (f x).length = e) {o : Nat} (ho : o < e) {v : V} {y : α} : ∀ {xs : List α} {j : Nat} (h : j < xs.length), f y = (f xs[j]).set o v → (xs.flatMap f).set (j * e + o) v = (xs.set j y).flatMap f
  | [], j, h, _ => by simp at h
  | x :: xs, 0, _, hy => by
    simp only [List.flatMap_cons, List.set_cons_zero, Nat.zero_mul, Nat.zero_add]
    rw [List.set_append_left _ _ (by rw [hf]; exact ho), hy]
    rfl
  | x :: xs, j + 1, h, hy => by
    simp only [List.flatMap_cons, List.set_cons_succ]
    have e1 : (j + 1) * e + o = (f x).length + (j * e + o) := by rw [hf, Nat.add_mul]; omega
    rw [e1, List.set_append_right _ _ (by omega), Nat.add_sub_cancel_left, set_flat hf ho (by simpa using h) (by simpa using hy)]
@[simp high] theorem eBox_s0 {xs : List Box} {j : Nat} (h : j < xs.length) (a : Int) : (xs.flatMap eBox).set (j * 4) (.sc (.int .i64 a)) = (xs.set j ⟨a, xs[j].drops, xs[j].strips, xs[j].lists⟩).flatMap eBox := set_flat (o := 0) eBox_len (by omega) h rfl
@[simp high] theorem eBox_s1 {xs : List Box} {j : Nat} (h : j < xs.length) {n : Nat} (a : List Int) (hn : n = a.length) : (xs.flatMap eBox).set (j * 4 + 1) (.sl 0 1 n (ints a)) = (xs.set j ⟨xs[j].limit, a, xs[j].strips, xs[j].lists⟩).flatMap eBox := by subst hn; exact set_flat (o := 1) eBox_len (by omega) h rfl
@[simp high] theorem eBox_s2 {xs : List Box} {j : Nat} (h : j < xs.length) {n : Nat} (a : List Int) (hn : n = a.length) : (xs.flatMap eBox).set (j * 4 + 2) (.sl 0 1 n (ints a)) = (xs.set j ⟨xs[j].limit, xs[j].drops, a, xs[j].lists⟩).flatMap eBox := by subst hn; exact set_flat (o := 2) eBox_len (by omega) h rfl
@[simp high] theorem eBox_s3 {xs : List Box} {j : Nat} (h : j < xs.length) (a : Bool) : (xs.flatMap eBox).set (j * 4 + 3) (.sc (.bool a)) = (xs.set j ⟨xs[j].limit, xs[j].drops, xs[j].strips, a⟩).flatMap eBox := set_flat (o := 3) eBox_len (by omega) h rfl
@[simp high] theorem eDialed_s0 {xs : List Dialed} {j : Nat} (h : j < xs.length) (a : Bool) : (xs.flatMap eDialed).set (j * 5) (.sc (.bool a)) = (xs.set j ⟨⟨a, xs[j].deal.version, xs[j].deal.tags⟩, xs[j].tries, xs[j].up⟩).flatMap eDialed := set_flat (o := 0) eDialed_len (by omega) h rfl
@[simp high] theorem eDialed_s1 {xs : List Dialed} {j : Nat} (h : j < xs.length) (a : Int) : (xs.flatMap eDialed).set (j * 5 + 1) (.sc (.int .i64 a)) = (xs.set j ⟨⟨xs[j].deal.ok, a, xs[j].deal.tags⟩, xs[j].tries, xs[j].up⟩).flatMap eDialed := set_flat (o := 1) eDialed_len (by omega) h rfl
@[simp high] theorem eDialed_s2 {xs : List Dialed} {j : Nat} (h : j < xs.length) {n : Nat} (a : List Int) (hn : n = a.length) : (xs.flatMap eDialed).set (j * 5 + 2) (.sl 0 1 n (ints a)) = (xs.set j ⟨⟨xs[j].deal.ok, xs[j].deal.version, a⟩, xs[j].tries, xs[j].up⟩).flatMap eDialed := by subst hn; exact set_flat (o := 2) eDialed_len (by omega) h rfl
@[simp high] theorem eDialed_s3 {xs : List Dialed} {j : Nat} (h : j < xs.length) (a : Int) : (xs.flatMap eDialed).set (j * 5 + 3) (.sc (.int .i64 a)) = (xs.set j ⟨⟨xs[j].deal.ok, xs[j].deal.version, xs[j].deal.tags⟩, a, xs[j].up⟩).flatMap eDialed := set_flat (o := 3) eDialed_len (by omega) h rfl
@[simp high] theorem eDialed_s4 {xs : List Dialed} {j : Nat} (h : j < xs.length) {n : Nat} (a : List Int) (hn : n = a.length) : (xs.flatMap eDialed).set (j * 5 + 4) (.sl 0 1 n (ints a)) = (xs.set j ⟨⟨xs[j].deal.ok, xs[j].deal.version, xs[j].deal.tags⟩, xs[j].tries, a⟩).flatMap eDialed := by subst hn; exact set_flat (o := 4) eDialed_len (by omega) h rfl
@[simp high] theorem eEndpoint_s0 {xs : List Endpoint} {j : Nat} (h : j < xs.length) {n : Nat} (a : List Int) (hn : n = a.length) : (xs.flatMap eEndpoint).set (j * 4) (.sl 0 1 n (ints a)) = (xs.set j ⟨a, xs[j].tags, xs[j].path, xs[j].cls⟩).flatMap eEndpoint := by subst hn; exact set_flat (o := 0) eEndpoint_len (by omega) h rfl
@[simp high] theorem eEndpoint_s1 {xs : List Endpoint} {j : Nat} (h : j < xs.length) {n : Nat} (a : List Int) (hn : n = a.length) : (xs.flatMap eEndpoint).set (j * 4 + 1) (.sl 0 1 n (ints a)) = (xs.set j ⟨xs[j].versions, a, xs[j].path, xs[j].cls⟩).flatMap eEndpoint := by subst hn; exact set_flat (o := 1) eEndpoint_len (by omega) h rfl
@[simp high] theorem eEndpoint_s2 {xs : List Endpoint} {j : Nat} (h : j < xs.length) {n : Nat} (a : List Box) (hn : n = a.length) : (xs.flatMap eEndpoint).set (j * 4 + 2) (.sl 0 4 n (a.flatMap eBox)) = (xs.set j ⟨xs[j].versions, xs[j].tags, a, xs[j].cls⟩).flatMap eEndpoint := by subst hn; exact set_flat (o := 2) eEndpoint_len (by omega) h rfl
@[simp high] theorem eEndpoint_s3 {xs : List Endpoint} {j : Nat} (h : j < xs.length) (a : Int) : (xs.flatMap eEndpoint).set (j * 4 + 3) (.sc (.int .i64 a)) = (xs.set j ⟨xs[j].versions, xs[j].tags, xs[j].path, a⟩).flatMap eEndpoint := set_flat (o := 3) eEndpoint_len (by omega) h rfl
@[simp high] theorem eLogged_s0 {xs : List Logged} {j : Nat} (h : j < xs.length) (a : Int) : (xs.flatMap eLogged).set (j * 8) (.sc (.int .i64 a)) = (xs.set j ⟨a, xs[j].tick, xs[j].on, ⟨⟨xs[j].dialed.deal.ok, xs[j].dialed.deal.version, xs[j].dialed.deal.tags⟩, xs[j].dialed.tries, xs[j].dialed.up⟩⟩).flatMap eLogged := set_flat (o := 0) eLogged_len (by omega) h rfl
@[simp high] theorem eLogged_s1 {xs : List Logged} {j : Nat} (h : j < xs.length) (a : Int) : (xs.flatMap eLogged).set (j * 8 + 1) (.sc (.int .i64 a)) = (xs.set j ⟨xs[j].fin, a, xs[j].on, ⟨⟨xs[j].dialed.deal.ok, xs[j].dialed.deal.version, xs[j].dialed.deal.tags⟩, xs[j].dialed.tries, xs[j].dialed.up⟩⟩).flatMap eLogged := set_flat (o := 1) eLogged_len (by omega) h rfl
@[simp high] theorem eLogged_s2 {xs : List Logged} {j : Nat} (h : j < xs.length) (a : Bool) : (xs.flatMap eLogged).set (j * 8 + 2) (.sc (.bool a)) = (xs.set j ⟨xs[j].fin, xs[j].tick, a, ⟨⟨xs[j].dialed.deal.ok, xs[j].dialed.deal.version, xs[j].dialed.deal.tags⟩, xs[j].dialed.tries, xs[j].dialed.up⟩⟩).flatMap eLogged := set_flat (o := 2) eLogged_len (by omega) h rfl
@[simp high] theorem eLogged_s3 {xs : List Logged} {j : Nat} (h : j < xs.length) (a : Bool) : (xs.flatMap eLogged).set (j * 8 + 3) (.sc (.bool a)) = (xs.set j ⟨xs[j].fin, xs[j].tick, xs[j].on, ⟨⟨a, xs[j].dialed.deal.version, xs[j].dialed.deal.tags⟩, xs[j].dialed.tries, xs[j].dialed.up⟩⟩).flatMap eLogged := set_flat (o := 3) eLogged_len (by omega) h rfl
@[simp high] theorem eLogged_s4 {xs : List Logged} {j : Nat} (h : j < xs.length) (a : Int) : (xs.flatMap eLogged).set (j * 8 + 4) (.sc (.int .i64 a)) = (xs.set j ⟨xs[j].fin, xs[j].tick, xs[j].on, ⟨⟨xs[j].dialed.deal.ok, a, xs[j].dialed.deal.tags⟩, xs[j].dialed.tries, xs[j].dialed.up⟩⟩).flatMap eLogged := set_flat (o := 4) eLogged_len (by omega) h rfl
@[simp high] theorem eLogged_s5 {xs : List Logged} {j : Nat} (h : j < xs.length) {n : Nat} (a : List Int) (hn : n = a.length) : (xs.flatMap eLogged).set (j * 8 + 5) (.sl 0 1 n (ints a)) = (xs.set j ⟨xs[j].fin, xs[j].tick, xs[j].on, ⟨⟨xs[j].dialed.deal.ok, xs[j].dialed.deal.version, a⟩, xs[j].dialed.tries, xs[j].dialed.up⟩⟩).flatMap eLogged := by subst hn; exact set_flat (o := 5) eLogged_len (by omega) h rfl
@[simp high] theorem eLogged_s6 {xs : List Logged} {j : Nat} (h : j < xs.length) (a : Int) : (xs.flatMap eLogged).set (j * 8 + 6) (.sc (.int .i64 a)) = (xs.set j ⟨xs[j].fin, xs[j].tick, xs[j].on, ⟨⟨xs[j].dialed.deal.ok, xs[j].dialed.deal.version, xs[j].dialed.deal.tags⟩, a, xs[j].dialed.up⟩⟩).flatMap eLogged := set_flat (o := 6) eLogged_len (by omega) h rfl
@[simp high] theorem eLogged_s7 {xs : List Logged} {j : Nat} (h : j < xs.length) {n : Nat} (a : List Int) (hn : n = a.length) : (xs.flatMap eLogged).set (j * 8 + 7) (.sl 0 1 n (ints a)) = (xs.set j ⟨xs[j].fin, xs[j].tick, xs[j].on, ⟨⟨xs[j].dialed.deal.ok, xs[j].dialed.deal.version, xs[j].dialed.deal.tags⟩, xs[j].dialed.tries, a⟩⟩).flatMap eLogged := by subst hn; exact set_flat (o := 7) eLogged_len (by omega) h rfl
@[simp high] theorem eEvent_s0 {xs : List Event} {j : Nat} (h : j < xs.length) (a : Int) : (xs.flatMap eEvent).set (j * 6) (.sc (.int .i64 a)) = (xs.set j ⟨a, xs[j].n, ⟨xs[j].box.limit, xs[j].box.drops, xs[j].box.strips, xs[j].box.lists⟩⟩).flatMap eEvent := set_flat (o := 0) eEvent_len (by omega) h rfl
@[simp high] theorem eEvent_s1 {xs : List Event} {j : Nat} (h : j < xs.length) (a : Int) : (xs.flatMap eEvent).set (j * 6 + 1) (.sc (.int .i64 a)) = (xs.set j ⟨xs[j].kind, a, ⟨xs[j].box.limit, xs[j].box.drops, xs[j].box.strips, xs[j].box.lists⟩⟩).flatMap eEvent := set_flat (o := 1) eEvent_len (by omega) h rfl
@[simp high] theorem eEvent_s2 {xs : List Event} {j : Nat} (h : j < xs.length) (a : Int) : (xs.flatMap eEvent).set (j * 6 + 2) (.sc (.int .i64 a)) = (xs.set j ⟨xs[j].kind, xs[j].n, ⟨a, xs[j].box.drops, xs[j].box.strips, xs[j].box.lists⟩⟩).flatMap eEvent := set_flat (o := 2) eEvent_len (by omega) h rfl
@[simp high] theorem eEvent_s3 {xs : List Event} {j : Nat} (h : j < xs.length) {n : Nat} (a : List Int) (hn : n = a.length) : (xs.flatMap eEvent).set (j * 6 + 3) (.sl 0 1 n (ints a)) = (xs.set j ⟨xs[j].kind, xs[j].n, ⟨xs[j].box.limit, a, xs[j].box.strips, xs[j].box.lists⟩⟩).flatMap eEvent := by subst hn; exact set_flat (o := 3) eEvent_len (by omega) h rfl
@[simp high] theorem eEvent_s4 {xs : List Event} {j : Nat} (h : j < xs.length) {n : Nat} (a : List Int) (hn : n = a.length) : (xs.flatMap eEvent).set (j * 6 + 4) (.sl 0 1 n (ints a)) = (xs.set j ⟨xs[j].kind, xs[j].n, ⟨xs[j].box.limit, xs[j].box.drops, a, xs[j].box.lists⟩⟩).flatMap eEvent := by subst hn; exact set_flat (o := 4) eEvent_len (by omega) h rfl
@[simp high] theorem eEvent_s5 {xs : List Event} {j : Nat} (h : j < xs.length) (a : Bool) : (xs.flatMap eEvent).set (j * 6 + 5) (.sc (.bool a)) = (xs.set j ⟨xs[j].kind, xs[j].n, ⟨xs[j].box.limit, xs[j].box.drops, xs[j].box.strips, a⟩⟩).flatMap eEvent := set_flat (o := 5) eEvent_len (by omega) h rfl
def mcDeal (x : Deal) : Nat := x.tags.length
def mkDeal (x : Deal) (k : Int) : Deal := ⟨x.ok, x.version, nums x.tags.length (k)⟩
def mcBox (x : Box) : Nat := 1 + x.drops.length + x.strips.length + 1
def mkBox (x : Box) (k : Int) : Box := ⟨k, nums x.drops.length (k + 1), nums x.strips.length (k + 1 + ((x.drops.length : Nat) : Int)), ((k + 1 + ((x.drops.length : Nat) : Int) + ((x.strips.length : Nat) : Int)).tmod 3 == 0)⟩
def mcDialed (x : Dialed) : Nat := 1 + 1 + x.deal.tags.length + 1 + x.up.length
def mkDialed (x : Dialed) (k : Int) : Dialed := ⟨⟨((k).tmod 3 == 0), k + 1, nums x.deal.tags.length (k + 1 + 1)⟩, k + 1 + 1 + ((x.deal.tags.length : Nat) : Int), nums x.up.length (k + 1 + 1 + ((x.deal.tags.length : Nat) : Int) + 1)⟩
def mcEndpoint (x : Endpoint) : Nat := x.versions.length + x.tags.length + mcL mcBox x.path + 1
def mkEndpoint (x : Endpoint) (k : Int) : Endpoint := ⟨nums x.versions.length (k), nums x.tags.length (k + ((x.versions.length : Nat) : Int)), mkL mcBox mkBox x.path (k + ((x.versions.length : Nat) : Int) + ((x.tags.length : Nat) : Int)), k + ((x.versions.length : Nat) : Int) + ((x.tags.length : Nat) : Int) + ((mcL mcBox x.path : Nat) : Int)⟩
def mcLogged (x : Logged) : Nat := 1 + 1 + 1 + 1 + 1 + x.dialed.deal.tags.length + 1 + x.dialed.up.length
def mkLogged (x : Logged) (k : Int) : Logged := ⟨k, k + 1, ((k + 1 + 1).tmod 3 == 0), ⟨⟨((k + 1 + 1 + 1).tmod 3 == 0), k + 1 + 1 + 1 + 1, nums x.dialed.deal.tags.length (k + 1 + 1 + 1 + 1 + 1)⟩, k + 1 + 1 + 1 + 1 + 1 + ((x.dialed.deal.tags.length : Nat) : Int), nums x.dialed.up.length (k + 1 + 1 + 1 + 1 + 1 + ((x.dialed.deal.tags.length : Nat) : Int) + 1)⟩⟩
def mcEvent (x : Event) : Nat := 1 + 1 + 1 + x.box.drops.length + x.box.strips.length + 1
def mkEvent (x : Event) (k : Int) : Event := ⟨k, k + 1, ⟨k + 1 + 1, nums x.box.drops.length (k + 1 + 1 + 1), nums x.box.strips.length (k + 1 + 1 + 1 + ((x.box.drops.length : Nat) : Int)), ((k + 1 + 1 + 1 + ((x.box.drops.length : Nat) : Int) + ((x.box.strips.length : Nat) : Int)).tmod 3 == 0)⟩⟩
def mcRollout (x : Rollout) : Nat := x.stages.length
def mkRollout (x : Rollout) (k : Int) : Rollout := ⟨x.version, nums x.stages.length (k), x.pos, x.off⟩
def mcWorld (x : World) : Nat := x.server.length + x.tags.length + mcL mcEndpoint x.ends + x.rollout.stages.length + mcL mcDialed x.stage + mcL mcLogged x.log
def mkWorld (x : World) (k : Int) : World := ⟨nums x.server.length (k), nums x.tags.length (k + ((x.server.length : Nat) : Int)), x.key, mkL mcEndpoint mkEndpoint x.ends (k + ((x.server.length : Nat) : Int) + ((x.tags.length : Nat) : Int)), ⟨x.rollout.version, nums x.rollout.stages.length (k + ((x.server.length : Nat) : Int) + ((x.tags.length : Nat) : Int) + ((mcL mcEndpoint x.ends : Nat) : Int)), x.rollout.pos, x.rollout.off⟩, x.least, x.percent, mkL mcDialed mkDialed x.stage (k + ((x.server.length : Nat) : Int) + ((x.tags.length : Nat) : Int) + ((mcL mcEndpoint x.ends : Nat) : Int) + ((x.rollout.stages.length : Nat) : Int)), mkL mcLogged mkLogged x.log (k + ((x.server.length : Nat) : Int) + ((x.tags.length : Nat) : Int) + ((mcL mcEndpoint x.ends : Nat) : Int) + ((x.rollout.stages.length : Nat) : Int) + ((mcL mcDialed x.stage : Nat) : Int)), x.now, x.hurt, x.reached⟩
def mcTBox (x : Box) : Nat := x.drops.length + x.strips.length
def mkTBox (x : Box) (k : Int) : Box := ⟨x.limit, nums x.drops.length (k), nums x.strips.length (k + ((x.drops.length : Nat) : Int)), x.lists⟩
def mcTDialed (x : Dialed) : Nat := x.deal.tags.length + x.up.length
def mkTDialed (x : Dialed) (k : Int) : Dialed := ⟨⟨x.deal.ok, x.deal.version, nums x.deal.tags.length (k)⟩, x.tries, nums x.up.length (k + ((x.deal.tags.length : Nat) : Int))⟩
def mcTEndpoint (x : Endpoint) : Nat := x.versions.length + x.tags.length + mcL mcBox x.path
def mkTEndpoint (x : Endpoint) (k : Int) : Endpoint := ⟨nums x.versions.length (k), nums x.tags.length (k + ((x.versions.length : Nat) : Int)), mkL mcBox mkBox x.path (k + ((x.versions.length : Nat) : Int) + ((x.tags.length : Nat) : Int)), x.cls⟩
def mcTLogged (x : Logged) : Nat := x.dialed.deal.tags.length + x.dialed.up.length
def mkTLogged (x : Logged) (k : Int) : Logged := ⟨x.fin, x.tick, x.on, ⟨⟨x.dialed.deal.ok, x.dialed.deal.version, nums x.dialed.deal.tags.length (k)⟩, x.dialed.tries, nums x.dialed.up.length (k + ((x.dialed.deal.tags.length : Nat) : Int))⟩⟩
def mcTEvent (x : Event) : Nat := x.box.drops.length + x.box.strips.length
def mkTEvent (x : Event) (k : Int) : Event := ⟨x.kind, x.n, ⟨x.box.limit, nums x.box.drops.length (k), nums x.box.strips.length (k + ((x.box.drops.length : Nat) : Int)), x.box.lists⟩⟩
end Go.Eng.T

namespace Go.Eng.T
theorem datL_cons {y : Ty} {ys : List Ty} {cs : List V} (h : DatL (y :: ys) cs) : ∃ a b, Dat y a ∧ DatL ys b ∧ cs = a ++ b := by simp only [DatL] at h; exact h
theorem datL_nil {cs : List V} (h : DatL [] cs) : cs = [] := by simp only [DatL] at h; exact h
theorem dat_st {ys : List Ty} {cs : List V} (h : Dat (.st ys) cs) : DatL ys cs := by simp only [Dat] at h; exact h
def rgI (n : Int) : Prop := -9223372036854775808 ≤ n ∧ n ≤ 9223372036854775807
theorem rg_of {n : Int} (h : (Lit.int .i64 n).wf = true) : rgI n := by
  simp only [Lit.wf, IntKind.min, IntKind.max, IntKind.bits, IntKind.signed, Bool.and_eq_true, decide_eq_true_eq] at h
  exact ⟨h.1, h.2⟩
theorem datI {cs : List V} (h : Dat (.int .i64) cs) : ∃ n, cs = [.sc (.int .i64 n)] ∧ rgI n := by
  simp only [Dat] at h
  obtain ⟨n, h1, h2⟩ := h
  exact ⟨n, h2, rg_of h1⟩
theorem datB {cs : List V} (h : Dat .bool cs) : ∃ b, cs = [.sc (.bool b)] := by simp only [Dat] at h; exact h
theorem datS {cs : List V} (h : Dat .str cs) : ∃ s : ByteArray, cs = [.sc (.string s)] ∧ s.size ≤ maxLen := by
  simp only [Dat] at h
  obtain ⟨n, h1, h2⟩ := h
  exact ⟨n, h2, h1⟩
theorem choose_row {α : Type} {f : α → List V} {p : α → Prop} : ∀ {xs : List (List V)}, (∀ x, x ∈ xs → ∃ d, x = f d ∧ p d) → ∃ ds : List α, xs = ds.map f ∧ ∀ d, d ∈ ds → p d
  | [], _ => ⟨[], rfl, by simp⟩
  | x :: xs, h => by
    obtain ⟨d, rfl, hd⟩ := h x (by simp)
    obtain ⟨ds, rfl, hds⟩ := choose_row (xs := xs) fun y hy => h y (by simp [hy])
    exact ⟨d :: ds, rfl, by intro y hy; rcases List.mem_cons.1 hy with rfl | hy; exact hd; exact hds y hy⟩
theorem datRow {α : Type} {y : Ty} {f : α → List V} {p : α → Prop} (hf : ∀ cs, Dat y cs → ∃ d, cs = f d ∧ p d) {cs : List V} (h : Dat (.sl y) cs) :
    ∃ ds : List α, cs = [.sl 0 y.cells ds.length (ds.flatMap f)] ∧ ds.length ≤ maxLen ∧ ∀ d, d ∈ ds → p d := by
  simp only [Dat] at h
  obtain ⟨xs, h1, h2, rfl⟩ := h
  obtain ⟨ds, rfl, h3⟩ := choose_row (f := f) (p := p) (xs := xs) fun x hx => hf x (h2 x hx)
  exact ⟨ds, by simp [List.flatMap_def], by simpa using h1, h3⟩
def rgInts (xs : List Int) : Prop := ∀ x, x ∈ xs → rgI x
def rgS {α : Type} (f : α → Prop) (xs : List α) : Prop := ∀ x, x ∈ xs → f x
theorem datInts {cs : List V} (h : Dat (.sl (.int .i64)) cs) : ∃ xs : List Int, cs = [.sl 0 1 xs.length (ints xs)] ∧ lnInts xs ∧ rgInts xs := by
  obtain ⟨ds, h1, h2, h3⟩ := datRow (f := fun n => [V.sc (.int .i64 n)]) (p := rgI) (fun cs h => datI h) h
  refine ⟨ds, ?_, h2, h3⟩
  have e : ds.flatMap (fun n => [V.sc (.int .i64 n)]) = ints ds := by
    clear h1 h2 h3
    induction ds with
    | nil => rfl
    | cons a ds ih => rw [List.flatMap_cons, ih]; rfl
  rw [h1, e]
  rfl
def tyDeal : Ty := .st [.bool, .int .i64, .sl (.int .i64)]
def rgDeal (d : Deal) : Prop := rgI d.version ∧ rgInts d.tags
theorem datDeal {cs : List V} (h : Dat tyDeal cs) : ∃ x : Deal, cs = eDeal x ∧ lnDeal x ∧ rgDeal x := by
  have h0 := dat_st h
  obtain ⟨a0, r0, g0, h1, e0⟩ := datL_cons h0
  obtain ⟨x0, rfl⟩ := datB g0
  obtain ⟨a1, r1, g1, h2, e1⟩ := datL_cons h1
  obtain ⟨x1, rfl, w1⟩ := datI g1
  obtain ⟨a2, r2, g2, h3, e2⟩ := datL_cons h2
  obtain ⟨x2, rfl, l2, w2⟩ := datInts g2
  have z := datL_nil h3
  subst z; subst e2; subst e1; subst e0
  exact ⟨⟨x0, x1, x2⟩, rfl, l2, ⟨w1, w2⟩⟩
def tyBox : Ty := .st [.int .i64, .sl (.int .i64), .sl (.int .i64), .bool]
def rgBox (d : Box) : Prop := rgI d.limit ∧ rgInts d.drops ∧ rgInts d.strips
theorem datBox {cs : List V} (h : Dat tyBox cs) : ∃ x : Box, cs = eBox x ∧ lnBox x ∧ rgBox x := by
  have h0 := dat_st h
  obtain ⟨a0, r0, g0, h1, e0⟩ := datL_cons h0
  obtain ⟨x0, rfl, w0⟩ := datI g0
  obtain ⟨a1, r1, g1, h2, e1⟩ := datL_cons h1
  obtain ⟨x1, rfl, l1, w1⟩ := datInts g1
  obtain ⟨a2, r2, g2, h3, e2⟩ := datL_cons h2
  obtain ⟨x2, rfl, l2, w2⟩ := datInts g2
  obtain ⟨a3, r3, g3, h4, e3⟩ := datL_cons h3
  obtain ⟨x3, rfl⟩ := datB g3
  have z := datL_nil h4
  subst z; subst e3; subst e2; subst e1; subst e0
  exact ⟨⟨x0, x1, x2, x3⟩, rfl, ⟨l1, l2⟩, ⟨w0, w1, w2⟩⟩
theorem datBoxS {cs : List V} (h : Dat (.sl tyBox) cs) : ∃ xs : List Box, cs = [.sl 0 4 xs.length (xs.flatMap eBox)] ∧ lnS lnBox xs ∧ rgS rgBox xs := by
  obtain ⟨ds, h1, h2, h3⟩ := datRow (f := eBox) (p := fun x => lnBox x ∧ rgBox x) (fun cs h => datBox h) h
  exact ⟨ds, h1, ⟨h2, fun j hj => (h3 _ (List.getElem_mem hj)).1⟩, fun x hx => (h3 x hx).2⟩
def tyDialed : Ty := .st [tyDeal, .int .i64, .sl (.int .i64)]
def rgDialed (d : Dialed) : Prop := rgDeal d.deal ∧ rgI d.tries ∧ rgInts d.up
theorem datDialed {cs : List V} (h : Dat tyDialed cs) : ∃ x : Dialed, cs = eDialed x ∧ lnDialed x ∧ rgDialed x := by
  have h0 := dat_st h
  obtain ⟨a0, r0, g0, h1, e0⟩ := datL_cons h0
  obtain ⟨x0, rfl, l0, w0⟩ := datDeal g0
  obtain ⟨a1, r1, g1, h2, e1⟩ := datL_cons h1
  obtain ⟨x1, rfl, w1⟩ := datI g1
  obtain ⟨a2, r2, g2, h3, e2⟩ := datL_cons h2
  obtain ⟨x2, rfl, l2, w2⟩ := datInts g2
  have z := datL_nil h3
  subst z; subst e2; subst e1; subst e0
  exact ⟨⟨x0, x1, x2⟩, rfl, ⟨l0, l2⟩, ⟨w0, w1, w2⟩⟩
theorem datDialedS {cs : List V} (h : Dat (.sl tyDialed) cs) : ∃ xs : List Dialed, cs = [.sl 0 5 xs.length (xs.flatMap eDialed)] ∧ lnS lnDialed xs ∧ rgS rgDialed xs := by
  obtain ⟨ds, h1, h2, h3⟩ := datRow (f := eDialed) (p := fun x => lnDialed x ∧ rgDialed x) (fun cs h => datDialed h) h
  exact ⟨ds, h1, ⟨h2, fun j hj => (h3 _ (List.getElem_mem hj)).1⟩, fun x hx => (h3 x hx).2⟩
def tyRollout : Ty := .st [.int .i64, .sl (.int .i64), .int .i64, .bool]
def rgRollout (d : Rollout) : Prop := rgI d.version ∧ rgInts d.stages ∧ rgI d.pos
theorem datRollout {cs : List V} (h : Dat tyRollout cs) : ∃ x : Rollout, cs = eRollout x ∧ lnRollout x ∧ rgRollout x := by
  have h0 := dat_st h
  obtain ⟨a0, r0, g0, h1, e0⟩ := datL_cons h0
  obtain ⟨x0, rfl, w0⟩ := datI g0
  obtain ⟨a1, r1, g1, h2, e1⟩ := datL_cons h1
  obtain ⟨x1, rfl, l1, w1⟩ := datInts g1
  obtain ⟨a2, r2, g2, h3, e2⟩ := datL_cons h2
  obtain ⟨x2, rfl, w2⟩ := datI g2
  obtain ⟨a3, r3, g3, h4, e3⟩ := datL_cons h3
  obtain ⟨x3, rfl⟩ := datB g3
  have z := datL_nil h4
  subst z; subst e3; subst e2; subst e1; subst e0
  exact ⟨⟨x0, x1, x2, x3⟩, rfl, l1, ⟨w0, w1, w2⟩⟩
def tyEndpoint : Ty := .st [.sl (.int .i64), .sl (.int .i64), .sl tyBox, .int .i64]
def rgEndpoint (d : Endpoint) : Prop := rgInts d.versions ∧ rgInts d.tags ∧ rgS rgBox d.path ∧ rgI d.cls
theorem datEndpoint {cs : List V} (h : Dat tyEndpoint cs) : ∃ x : Endpoint, cs = eEndpoint x ∧ lnEndpoint x ∧ rgEndpoint x := by
  have h0 := dat_st h
  obtain ⟨a0, r0, g0, h1, e0⟩ := datL_cons h0
  obtain ⟨x0, rfl, l0, w0⟩ := datInts g0
  obtain ⟨a1, r1, g1, h2, e1⟩ := datL_cons h1
  obtain ⟨x1, rfl, l1, w1⟩ := datInts g1
  obtain ⟨a2, r2, g2, h3, e2⟩ := datL_cons h2
  obtain ⟨x2, rfl, l2, w2⟩ := datBoxS g2
  obtain ⟨a3, r3, g3, h4, e3⟩ := datL_cons h3
  obtain ⟨x3, rfl, w3⟩ := datI g3
  have z := datL_nil h4
  subst z; subst e3; subst e2; subst e1; subst e0
  exact ⟨⟨x0, x1, x2, x3⟩, rfl, ⟨l0, l1, l2⟩, ⟨w0, w1, w2, w3⟩⟩
theorem datEndpointS {cs : List V} (h : Dat (.sl tyEndpoint) cs) : ∃ xs : List Endpoint, cs = [.sl 0 4 xs.length (xs.flatMap eEndpoint)] ∧ lnS lnEndpoint xs ∧ rgS rgEndpoint xs := by
  obtain ⟨ds, h1, h2, h3⟩ := datRow (f := eEndpoint) (p := fun x => lnEndpoint x ∧ rgEndpoint x) (fun cs h => datEndpoint h) h
  exact ⟨ds, h1, ⟨h2, fun j hj => (h3 _ (List.getElem_mem hj)).1⟩, fun x hx => (h3 x hx).2⟩
def tyLogged : Ty := .st [.int .i64, .int .i64, .bool, tyDialed]
def rgLogged (d : Logged) : Prop := rgI d.fin ∧ rgI d.tick ∧ rgDialed d.dialed
theorem datLogged {cs : List V} (h : Dat tyLogged cs) : ∃ x : Logged, cs = eLogged x ∧ lnLogged x ∧ rgLogged x := by
  have h0 := dat_st h
  obtain ⟨a0, r0, g0, h1, e0⟩ := datL_cons h0
  obtain ⟨x0, rfl, w0⟩ := datI g0
  obtain ⟨a1, r1, g1, h2, e1⟩ := datL_cons h1
  obtain ⟨x1, rfl, w1⟩ := datI g1
  obtain ⟨a2, r2, g2, h3, e2⟩ := datL_cons h2
  obtain ⟨x2, rfl⟩ := datB g2
  obtain ⟨a3, r3, g3, h4, e3⟩ := datL_cons h3
  obtain ⟨x3, rfl, l3, w3⟩ := datDialed g3
  have z := datL_nil h4
  subst z; subst e3; subst e2; subst e1; subst e0
  exact ⟨⟨x0, x1, x2, x3⟩, rfl, l3, ⟨w0, w1, w3⟩⟩
theorem datLoggedS {cs : List V} (h : Dat (.sl tyLogged) cs) : ∃ xs : List Logged, cs = [.sl 0 8 xs.length (xs.flatMap eLogged)] ∧ lnS lnLogged xs ∧ rgS rgLogged xs := by
  obtain ⟨ds, h1, h2, h3⟩ := datRow (f := eLogged) (p := fun x => lnLogged x ∧ rgLogged x) (fun cs h => datLogged h) h
  exact ⟨ds, h1, ⟨h2, fun j hj => (h3 _ (List.getElem_mem hj)).1⟩, fun x hx => (h3 x hx).2⟩
def tyWorld : Ty := .st [.sl (.int .i64), .sl (.int .i64), .int .i64, .sl tyEndpoint, tyRollout, .int .i64, .int .i64, .sl tyDialed, .sl tyLogged, .int .i64, .int .i64, .int .i64]
def rgWorld (d : World) : Prop := rgInts d.server ∧ rgInts d.tags ∧ rgI d.key ∧ rgS rgEndpoint d.ends ∧ rgRollout d.rollout ∧ rgI d.least ∧ rgI d.percent ∧ rgS rgDialed d.stage ∧ rgS rgLogged d.log ∧ rgI d.now ∧ rgI d.hurt ∧ rgI d.reached
theorem datWorld {cs : List V} (h : Dat tyWorld cs) : ∃ x : World, cs = eWorld x ∧ lnWorld x ∧ rgWorld x := by
  have h0 := dat_st h
  obtain ⟨a0, r0, g0, h1, e0⟩ := datL_cons h0
  obtain ⟨x0, rfl, l0, w0⟩ := datInts g0
  obtain ⟨a1, r1, g1, h2, e1⟩ := datL_cons h1
  obtain ⟨x1, rfl, l1, w1⟩ := datInts g1
  obtain ⟨a2, r2, g2, h3, e2⟩ := datL_cons h2
  obtain ⟨x2, rfl, w2⟩ := datI g2
  obtain ⟨a3, r3, g3, h4, e3⟩ := datL_cons h3
  obtain ⟨x3, rfl, l3, w3⟩ := datEndpointS g3
  obtain ⟨a4, r4, g4, h5, e4⟩ := datL_cons h4
  obtain ⟨x4, rfl, l4, w4⟩ := datRollout g4
  obtain ⟨a5, r5, g5, h6, e5⟩ := datL_cons h5
  obtain ⟨x5, rfl, w5⟩ := datI g5
  obtain ⟨a6, r6, g6, h7, e6⟩ := datL_cons h6
  obtain ⟨x6, rfl, w6⟩ := datI g6
  obtain ⟨a7, r7, g7, h8, e7⟩ := datL_cons h7
  obtain ⟨x7, rfl, l7, w7⟩ := datDialedS g7
  obtain ⟨a8, r8, g8, h9, e8⟩ := datL_cons h8
  obtain ⟨x8, rfl, l8, w8⟩ := datLoggedS g8
  obtain ⟨a9, r9, g9, h10, e9⟩ := datL_cons h9
  obtain ⟨x9, rfl, w9⟩ := datI g9
  obtain ⟨a10, r10, g10, h11, e10⟩ := datL_cons h10
  obtain ⟨x10, rfl, w10⟩ := datI g10
  obtain ⟨a11, r11, g11, h12, e11⟩ := datL_cons h11
  obtain ⟨x11, rfl, w11⟩ := datI g11
  have z := datL_nil h12
  subst z; subst e11; subst e10; subst e9; subst e8; subst e7; subst e6; subst e5; subst e4; subst e3; subst e2; subst e1; subst e0
  exact ⟨⟨x0, x1, x2, x3, x4, x5, x6, x7, x8, x9, x10, x11⟩, rfl, ⟨l0, l1, l3, l4, l7, l8⟩, ⟨w0, w1, w2, w3, w4, w5, w6, w7, w8, w9, w10, w11⟩⟩
def tyEvent : Ty := .st [.int .i64, .int .i64, tyBox]
def rgEvent (d : Event) : Prop := rgI d.kind ∧ rgI d.n ∧ rgBox d.box
theorem datEvent {cs : List V} (h : Dat tyEvent cs) : ∃ x : Event, cs = eEvent x ∧ lnEvent x ∧ rgEvent x := by
  have h0 := dat_st h
  obtain ⟨a0, r0, g0, h1, e0⟩ := datL_cons h0
  obtain ⟨x0, rfl, w0⟩ := datI g0
  obtain ⟨a1, r1, g1, h2, e1⟩ := datL_cons h1
  obtain ⟨x1, rfl, w1⟩ := datI g1
  obtain ⟨a2, r2, g2, h3, e2⟩ := datL_cons h2
  obtain ⟨x2, rfl, l2, w2⟩ := datBox g2
  have z := datL_nil h3
  subst z; subst e2; subst e1; subst e0
  exact ⟨⟨x0, x1, x2⟩, rfl, l2, ⟨w0, w1, w2⟩⟩
theorem datEventS {cs : List V} (h : Dat (.sl tyEvent) cs) : ∃ xs : List Event, cs = [.sl 0 6 xs.length (xs.flatMap eEvent)] ∧ lnS lnEvent xs ∧ rgS rgEvent xs := by
  obtain ⟨ds, h1, h2, h3⟩ := datRow (f := eEvent) (p := fun x => lnEvent x ∧ rgEvent x) (fun cs h => datEvent h) h
  exact ⟨ds, h1, ⟨h2, fun j hj => (h3 _ (List.getElem_mem hj)).1⟩, fun x hx => (h3 x hx).2⟩

theorem argI {v : V} (h : ArgV (.int .i64) v) : ∃ n, v = I n ∧ rgI n := by
  obtain ⟨c, hd, rfl⟩ := h
  obtain ⟨n, e, w⟩ := datI hd
  cases e
  exact ⟨n, rfl, w⟩
theorem argB {v : V} (h : ArgV .bool v) : ∃ b, v = B b := by
  obtain ⟨c, hd, rfl⟩ := h
  obtain ⟨n, e⟩ := datB hd
  cases e
  exact ⟨n, rfl⟩
theorem argS {v : V} (h : ArgV .str v) : ∃ s : ByteArray, v = S s ∧ s.size ≤ maxLen := by
  obtain ⟨c, hd, rfl⟩ := h
  obtain ⟨n, e, w⟩ := datS hd
  cases e
  exact ⟨n, rfl, w⟩
theorem argInts {v : V} (h : ArgV (.sl (.int .i64)) v) : ∃ xs : List Int, v = .sl 1 1 xs.length (ints xs) ∧ lnInts xs ∧ rgInts xs := by
  obtain ⟨c, hd, rfl⟩ := h
  obtain ⟨xs, e, w⟩ := datInts hd
  cases e
  exact ⟨xs, rfl, w⟩
theorem argDeal {v : V} (h : ArgV tyDeal v) : ∃ x : Deal, v = arg (eDeal x) ∧ lnDeal x ∧ rgDeal x := by
  obtain ⟨cs, hd, rfl⟩ := h
  obtain ⟨x, rfl, w⟩ := datDeal hd
  exact ⟨x, rfl, w⟩
theorem argBox {v : V} (h : ArgV tyBox v) : ∃ x : Box, v = arg (eBox x) ∧ lnBox x ∧ rgBox x := by
  obtain ⟨cs, hd, rfl⟩ := h
  obtain ⟨x, rfl, w⟩ := datBox hd
  exact ⟨x, rfl, w⟩
theorem argBoxS {v : V} (h : ArgV (.sl tyBox) v) : ∃ xs : List Box, v = .sl 1 4 xs.length (xs.flatMap eBox) ∧ lnS lnBox xs ∧ rgS rgBox xs := by
  obtain ⟨c, hd, rfl⟩ := h
  obtain ⟨xs, e, w⟩ := datBoxS hd
  cases e
  exact ⟨xs, rfl, w⟩
theorem argDialed {v : V} (h : ArgV tyDialed v) : ∃ x : Dialed, v = arg (eDialed x) ∧ lnDialed x ∧ rgDialed x := by
  obtain ⟨cs, hd, rfl⟩ := h
  obtain ⟨x, rfl, w⟩ := datDialed hd
  exact ⟨x, rfl, w⟩
theorem argDialedS {v : V} (h : ArgV (.sl tyDialed) v) : ∃ xs : List Dialed, v = .sl 1 5 xs.length (xs.flatMap eDialed) ∧ lnS lnDialed xs ∧ rgS rgDialed xs := by
  obtain ⟨c, hd, rfl⟩ := h
  obtain ⟨xs, e, w⟩ := datDialedS hd
  cases e
  exact ⟨xs, rfl, w⟩
theorem argRollout {v : V} (h : ArgV tyRollout v) : ∃ x : Rollout, v = arg (eRollout x) ∧ lnRollout x ∧ rgRollout x := by
  obtain ⟨cs, hd, rfl⟩ := h
  obtain ⟨x, rfl, w⟩ := datRollout hd
  exact ⟨x, rfl, w⟩
theorem argEndpoint {v : V} (h : ArgV tyEndpoint v) : ∃ x : Endpoint, v = arg (eEndpoint x) ∧ lnEndpoint x ∧ rgEndpoint x := by
  obtain ⟨cs, hd, rfl⟩ := h
  obtain ⟨x, rfl, w⟩ := datEndpoint hd
  exact ⟨x, rfl, w⟩
theorem argEndpointS {v : V} (h : ArgV (.sl tyEndpoint) v) : ∃ xs : List Endpoint, v = .sl 1 4 xs.length (xs.flatMap eEndpoint) ∧ lnS lnEndpoint xs ∧ rgS rgEndpoint xs := by
  obtain ⟨c, hd, rfl⟩ := h
  obtain ⟨xs, e, w⟩ := datEndpointS hd
  cases e
  exact ⟨xs, rfl, w⟩
theorem argLogged {v : V} (h : ArgV tyLogged v) : ∃ x : Logged, v = arg (eLogged x) ∧ lnLogged x ∧ rgLogged x := by
  obtain ⟨cs, hd, rfl⟩ := h
  obtain ⟨x, rfl, w⟩ := datLogged hd
  exact ⟨x, rfl, w⟩
theorem argLoggedS {v : V} (h : ArgV (.sl tyLogged) v) : ∃ xs : List Logged, v = .sl 1 8 xs.length (xs.flatMap eLogged) ∧ lnS lnLogged xs ∧ rgS rgLogged xs := by
  obtain ⟨c, hd, rfl⟩ := h
  obtain ⟨xs, e, w⟩ := datLoggedS hd
  cases e
  exact ⟨xs, rfl, w⟩
theorem argWorld {v : V} (h : ArgV tyWorld v) : ∃ x : World, v = arg (eWorld x) ∧ lnWorld x ∧ rgWorld x := by
  obtain ⟨cs, hd, rfl⟩ := h
  obtain ⟨x, rfl, w⟩ := datWorld hd
  exact ⟨x, rfl, w⟩
theorem argEvent {v : V} (h : ArgV tyEvent v) : ∃ x : Event, v = arg (eEvent x) ∧ lnEvent x ∧ rgEvent x := by
  obtain ⟨cs, hd, rfl⟩ := h
  obtain ⟨x, rfl, w⟩ := datEvent hd
  exact ⟨x, rfl, w⟩
theorem argEventS {v : V} (h : ArgV (.sl tyEvent) v) : ∃ xs : List Event, v = .sl 1 6 xs.length (xs.flatMap eEvent) ∧ lnS lnEvent xs ∧ rgS rgEvent xs := by
  obtain ⟨c, hd, rfl⟩ := h
  obtain ⟨xs, e, w⟩ := datEventS hd
  cases e
  exact ⟨xs, rfl, w⟩
end Go.Eng.T

namespace Go.Eng.T
theorem szl_lt {n : Nat} {l : Int} (h : l < n) : szl n l = -1 := by unfold szl; rw [if_pos h]
theorem szl_ge {n : Nat} {l : Int} (h : ¬ l < n) : szl n l = l - n := by unfold szl; rw [if_neg h]
theorem mcL_sz {α : Type} {mc sz : α → Nat} (c : Nat) (h : ∀ x, mc x ≤ c * (1 + sz x)) (xs : List α) : mcL mc xs ≤ c * sumF sz xs := by
  induction xs with
  | nil => simp [mcL]
  | cons x r ih =>
    have := h x
    simp only [mcL, sumF, List.map_cons, List.sum_cons, List.length_cons] at *
    rw [Nat.mul_add] at *
    rw [Nat.mul_add] at *
    rw [Nat.mul_add]
    omega
theorem mc_szBoxS (xs : List Box) : mcL mcBox xs ≤ 2 * sumF szBox xs := mcL_sz 2 (fun x => by unfold mcBox szBox; omega) xs
theorem mc_szEndpoint (x : Endpoint) : mcEndpoint x ≤ 2 * (1 + szEndpoint x) := by have := mc_szBoxS x.path; unfold mcEndpoint szEndpoint; omega
theorem mc_szEndpointS (xs : List Endpoint) : mcL mcEndpoint xs ≤ 2 * sumF szEndpoint xs := mcL_sz 2 mc_szEndpoint xs
theorem mc_szDialedS (xs : List Dialed) : mcL mcDialed xs ≤ 3 * sumF szDialed xs := mcL_sz 3 (fun x => by unfold mcDialed szDialed szDeal; omega) xs
theorem mc_szLoggedS (xs : List Logged) : mcL mcLogged xs ≤ 6 * sumF szLogged xs := mcL_sz 6 (fun x => by unfold mcLogged szLogged szDialed szDeal; omega) xs
theorem mc_szEventS (xs : List Event) : mcL mcEvent xs ≤ 4 * sumF szEvent xs := mcL_sz 4 (fun x => by unfold mcEvent szEvent szBox; omega) xs
theorem mc_szWorld (x : World) : mcWorld x ≤ 6 * szWorld x := by
  have := mc_szEndpointS x.ends
  have := mc_szDialedS x.stage
  have := mc_szLoggedS x.log
  unfold mcWorld szWorld szRollout; omega
theorem mc_szBox (x : Box) : mcTBox x ≤ szBox x := by unfold mcTBox szBox; omega
theorem mc_szDialed (x : Dialed) : mcTDialed x ≤ szDialed x := by unfold mcTDialed szDialed szDeal; omega
theorem mc_szDeal (x : Deal) : mcDeal x ≤ szDeal x := by unfold mcDeal szDeal; omega
theorem mc_szEvent (x : Event) : mcTEvent x ≤ szEvent x := by unfold mcTEvent szEvent szBox; omega
theorem mc_szRollout (x : Rollout) : mcRollout x ≤ szRollout x := by unfold mcRollout szRollout; omega
theorem mc_szEndpoint' (x : Endpoint) : mcTEndpoint x ≤ 2 * szEndpoint x := by have := mc_szBoxS x.path; unfold mcTEndpoint szEndpoint; omega
/-- sizes of a world's parts -/
theorem world_log {w : World} (h : szWorld w ≤ 4194304) : w.log.length ≤ 4194304 := by have := size_len (f := szLogged) (xs := w.log); unfold szWorld at h; omega
theorem world_ends {w : World} (h : szWorld w ≤ 4194304) : w.ends.length ≤ 4194304 := by have := size_len (f := szEndpoint) (xs := w.ends); unfold szWorld at h; omega
theorem world_stage {w : World} (h : szWorld w ≤ 4194304) : w.stage.length ≤ 4194304 := by have := size_len (f := szDialed) (xs := w.stage); unfold szWorld at h; omega
theorem beqI (a b : Int) : (a == b) = decide (a = b) := by by_cases h : a = b <;> simp [h]
end Go.Eng.T

namespace Go.Eng.T
set_option maxRecDepth 20000

theorem sz_up {xs : List Logged} {j : Nat} (h : j < xs.length) : xs[j].dialed.up.length ≤ sumF szLogged xs := by
  have := size_at (f := szLogged) h
  simp only [szLogged, szDialed] at this ⊢
  omega
theorem world_up {w : World} (h : szWorld w ≤ 4194304) {j : Nat} (hj : j < w.log.length) : w.log[j].dialed.up.length ≤ maxLen := by
  have := sz_up hj
  unfold szWorld at h
  unfold maxLen; omega

def hurtL (w : World) (l : Logged) : Bool := l.on && badD w.rollout.version l.dialed
abbrev HurtS (R : Rel) : Prop := ∀ (w : World) (l : Logged), l.dialed.up.length ≤ maxLen → R [arg (eWorld w), arg (eLogged l)] [] (B (hurtL w l)) []
theorem l37Bad_b (D : Dn) (hB : IsBadDialS (D gspec_IsBadDial)) : HurtS (Body D sspec_l37Bad) := by
  intro w l hl
  by_cases h : l.on = true
  · simp -implicitDefEqProofs [h]
    refine callQ_of (hB l.dialed _ hl) ?_
    simp -implicitDefEqProofs [hurtL, h]
  · simp -implicitDefEqProofs [h, hurtL]
theorem isHurt_b (D : Dn) (hB : IsBadDialS (D gimpl_IsBadDial)) : HurtS (Body D simpl_isHurt) := by
  intro w l hl
  by_cases h : l.on = true
  · simp -implicitDefEqProofs [h]
    refine callQ_of (hB l.dialed _ hl) ?_
    simp -implicitDefEqProofs [hurtL, h]
  · simp -implicitDefEqProofs [h, hurtL]

abbrev IsCountedS (R : Rel) : Prop := ∀ (w : World), szWorld w ≤ 4194304 → R [arg (eWorld w)] [] (B (decide (w.hurt = cntF (hurtL w) w.log))) []
end Go.Eng.T

namespace Go.Eng.T
set_option maxRecDepth 20000

abbrev InQ (a b c : Int) : Prop := b ≤ a ∧ a ≤ c
/-- shares that rise, each from 1 to 100 -/
def risesF (xs : List Int) (j : Nat) : Bool := (List.range j).all fun i => decide (InQ (xs.getD i 0) 1 100) && (decide (i = 0) || decide (xs.getD (i - 1) 0 < xs.getD i 0))
theorem risesF_step (xs : List Int) (j : Nat) : risesF xs (j + 1) = (risesF xs j && (decide (InQ (xs.getD j 0) 1 100) && (decide (j = 0) || decide (xs.getD (j - 1) 0 < xs.getD j 0)))) := by
  unfold risesF
  rw [List.range_succ, List.all_append]
  simp
theorem rises_no {xs : List Int} {j : Nat} (h : j < xs.length) (hn : risesF xs (j + 1) = false) : risesF xs xs.length = false := by
  have : ∀ n, risesF xs (j + 1 + n) = false := by
    intro n
    induction n with
    | zero => exact hn
    | succ n ih => rw [show j + 1 + (n + 1) = (j + 1 + n) + 1 by omega, risesF_step, ih]; rfl
  have := this (xs.length - (j + 1))
  rwa [show j + 1 + (xs.length - (j + 1)) = xs.length by omega] at this
def isRollout (r : Rollout) : Bool :=
  risesF r.stages r.stages.length && (decide (InQ r.version 1 9) && decide (InQ r.stages.length 1 5) && decide (r.stages.getD (r.stages.length - 1) 0 = 100) && decide (InQ r.pos 0 (r.stages.length - 1)))
abbrev IsRolloutS (R : Rel) : Prop := ∀ r : Rollout, r.stages.length ≤ 4194304 → R [arg (eRollout r)] [] (B (isRollout r)) []
theorem getD_at {xs : List Int} {j : Nat} (h : j < xs.length) : xs.getD j 0 = xs[j] := by simp [h]
theorem sIsRollout_b (D : Dn) (hI : InS (D gspec_l1In)) : IsRolloutS (Body D sspec_IsRollout) := by
  intro r hl
  simp -implicitDefEqProofs
  refine swp_loop (fun k s => ∃ j, j + k = r.stages.length ∧ risesF r.stages j = true ∧ s = ⟨[.undef, .ptr 0 0, .undef, .sc (.int .i64 j), .undef, .undef], [.var ((eRollout r).map (roCell 1))]⟩) ?_ r.stages.length _ ⟨0, by simp, by simp [risesF], by simp⟩
  intro k s ⟨j, hj, hr, hs⟩
  subst hs
  by_cases hjn : j < r.stages.length
  · have hw : IntKind.i64.wrap ((j : Int) + 1) = (j + 1 : Nat) := by rw [wrap_id (by omega) (by omega)]; simp
    have hst := risesF_step r.stages j
    rw [hr, Bool.true_and, getD_at hjn] at hst
    simp -implicitDefEqProofs [hjn]
    refine callQ_of (hI _ _ _) ?_
    by_cases h1 : InQ r.stages[j] 1 100
    rotate_left
    · have e : isRollout r = false := by unfold isRollout; rw [rises_no hjn (by rw [hst]; simp [h1])]; rfl
      simp -implicitDefEqProofs [h1, e]
    by_cases h0 : j = 0
    · subst h0
      simp -implicitDefEqProofs [h1]
      exact ⟨k - 1, by omega, 1, by omega, by rw [hst]; simp [h1], by simpa using hw⟩
    · have hp : ((j - 1 : Nat) : Int) = (j : Int) - 1 := by omega
      have hw2 : IntKind.i64.wrap ((j : Int) - 1) = ((j - 1 : Nat) : Int) := by rw [wrap_id (by omega) (by omega)]; omega
      have h2 : (0 : Int) < j := by omega
      have h2' : 0 < j := by omega
      have h3 : j - 1 < r.stages.length := by omega
      rw [getD_at h3] at hst
      by_cases h4 : r.stages[j - 1] < r.stages[j]
      · have h4' : ¬ r.stages[j] ≤ r.stages[j - 1] := by omega
        simp -implicitDefEqProofs [h1, h2, h2', hw2, h3, hjn, h4']
        exact ⟨k - 1, by omega, j + 1, by omega, by rw [hst]; simp [h1, h0, h4], by simp [hw]⟩
      · have e : isRollout r = false := by unfold isRollout; rw [rises_no hjn (by rw [hst]; simp [h1, h0, h4])]; rfl
        have h4' : r.stages[j] ≤ r.stages[j - 1] := by omega
        simp -implicitDefEqProofs [h1, h2, h2', hw2, h3, hjn, h4', e]
  · obtain rfl : j = r.stages.length := by omega
    simp -implicitDefEqProofs
    refine callQ_of (hI _ _ _) ?_
    by_cases h1 : InQ r.version 1 9
    rotate_left
    · simp -implicitDefEqProofs [h1, isRollout]
    simp -implicitDefEqProofs [h1]
    refine callQ_of (hI _ _ _) ?_
    by_cases h2 : InQ r.stages.length 1 5
    rotate_left
    · simp -implicitDefEqProofs [h2, isRollout]
    have hw2 : IntKind.i64.wrap ((r.stages.length : Int) - 1) = ((r.stages.length - 1 : Nat) : Int) := by rw [wrap_id (by omega) (by omega)]; omega
    have h3 : r.stages.length - 1 < r.stages.length := by omega
    have h5 : 0 < r.stages.length := by omega
    by_cases h4 : r.stages[r.stages.length - 1] = 100
    rotate_left
    · simp -implicitDefEqProofs [h2, hw2, h3, h4, h5, isRollout]
    simp -implicitDefEqProofs [h2, hw2, h3, h4, h5]
    refine callQ_of (hI _ _ _) ?_
    have hc : ((r.stages.length - 1 : Nat) : Int) = (r.stages.length : Int) - 1 := by omega
    have e : isRollout r = decide (InQ r.pos 0 ((r.stages.length - 1 : Nat) : Int)) := by unfold isRollout; rw [hr, getD_at h3, h4, hc]; simp [h1, h2]
    simp -implicitDefEqProofs [e]
theorem iIsRollout_b (D : Dn) (hI : InS (D gimpl_InRange)) : IsRolloutS (Body D simpl_IsRollout) := by
  intro r hl
  simp -implicitDefEqProofs
  refine swp_loop (fun k s => ∃ j v3 v4, j + k = r.stages.length ∧ risesF r.stages j = true ∧ s = ⟨[.undef, .ptr 0 0, .undef, v3, v4, .sl 1 1 r.stages.length (ints r.stages), .sc (.int .i64 r.stages.length), .sc (.int .i64 j), .undef, .undef], [.var ((eRollout r).map (roCell 1))]⟩) ?_ r.stages.length _ ⟨0, .undef, .undef, by simp, by simp [risesF], by simp⟩
  intro k s ⟨j, v3, v4, hj, hr, hs⟩
  subst hs
  by_cases hjn : j < r.stages.length
  · have hw : IntKind.i64.wrap ((j : Int) + 1) = (j + 1 : Nat) := by rw [wrap_id (by omega) (by omega)]; simp
    have hst := risesF_step r.stages j
    rw [hr, Bool.true_and, getD_at hjn] at hst
    simp -implicitDefEqProofs [hjn]
    refine callQ_of (hI _ _ _) ?_
    by_cases h1 : InQ r.stages[j] 1 100
    rotate_left
    · have e : isRollout r = false := by unfold isRollout; rw [rises_no hjn (by rw [hst]; simp [h1])]; rfl
      simp -implicitDefEqProofs [h1, e]
    by_cases h0 : j = 0
    · subst h0
      simp -implicitDefEqProofs [h1]
      exact ⟨k - 1, by omega, 1, by omega, by rw [hst]; simp [h1], by simpa using hw⟩
    · have hp : ((j - 1 : Nat) : Int) = (j : Int) - 1 := by omega
      have hw2 : IntKind.i64.wrap ((j : Int) - 1) = ((j - 1 : Nat) : Int) := by rw [wrap_id (by omega) (by omega)]; omega
      have h2 : (0 : Int) < j := by omega
      have h2' : 0 < j := by omega
      have h3 : j - 1 < r.stages.length := by omega
      rw [getD_at h3] at hst
      by_cases h4 : r.stages[j - 1] < r.stages[j]
      · have h4' : ¬ r.stages[j] ≤ r.stages[j - 1] := by omega
        simp -implicitDefEqProofs [h1, h2, h2', hw2, h3, hjn, h4']
        exact ⟨k - 1, by omega, j + 1, by omega, by rw [hst]; simp [h1, h0, h4], by simp [hw]⟩
      · have e : isRollout r = false := by unfold isRollout; rw [rises_no hjn (by rw [hst]; simp [h1, h0, h4])]; rfl
        have h4' : r.stages[j] ≤ r.stages[j - 1] := by omega
        simp -implicitDefEqProofs [h1, h2, h2', hw2, h3, hjn, h4', e]
  · obtain rfl : j = r.stages.length := by omega
    simp -implicitDefEqProofs
    refine callQ_of (hI _ _ _) ?_
    by_cases h1 : InQ r.version 1 9
    rotate_left
    · simp -implicitDefEqProofs [h1, isRollout]
    simp -implicitDefEqProofs [h1]
    refine callQ_of (hI _ _ _) ?_
    by_cases h2 : InQ r.stages.length 1 5
    rotate_left
    · simp -implicitDefEqProofs [h2, isRollout]
    have hw2 : IntKind.i64.wrap ((r.stages.length : Int) - 1) = ((r.stages.length - 1 : Nat) : Int) := by rw [wrap_id (by omega) (by omega)]; omega
    have h3 : r.stages.length - 1 < r.stages.length := by omega
    have h5 : 0 < r.stages.length := by omega
    by_cases h4 : r.stages[r.stages.length - 1] = 100
    rotate_left
    · simp -implicitDefEqProofs [h2, hw2, h3, h4, h5, isRollout]
    simp -implicitDefEqProofs [h2, hw2, h3, h4, h5]
    refine callQ_of (hI _ _ _) ?_
    have hc : ((r.stages.length - 1 : Nat) : Int) = (r.stages.length : Int) - 1 := by omega
    have e : isRollout r = decide (InQ r.pos 0 ((r.stages.length - 1 : Nat) : Int)) := by unfold isRollout; rw [hr, getD_at h3, h4, hc]; simp [h1, h2]
    simp -implicitDefEqProofs [e]

/-- rounded up -/
def ceilDiv (a b : Int) : Int := if InQ a 0 1000000000000 ∧ InQ b 1 1000000000000 then (a + b - 1).tdiv b else 0
abbrev CeilDivS (R : Rel) : Prop := ∀ a b : Int, R [I a, I b] [] (I (ceilDiv a b)) []
theorem tdiv_fit {a b : Int} (h1 : 0 ≤ a) (h2 : a ≤ 4000000000000) (h3 : 1 ≤ b) : IntKind.i64.wrap (a.tdiv b) = a.tdiv b := by
  have a1 : 0 ≤ a.tdiv b := Int.tdiv_nonneg h1 (by omega)
  have a2 : a.tdiv b ≤ a := Int.tdiv_le_self _ h1
  exact wrap_id (by omega) (by omega)
theorem sCeilDiv_b (D : Dn) (hI : InS (D gspec_l1In)) : CeilDivS (Body D sspec_CeilDiv) := by
  intro a b
  simp -implicitDefEqProofs
  refine callQ_of (hI _ _ _) ?_
  by_cases h1 : InQ a 0 1000000000000
  rotate_left
  · simp -implicitDefEqProofs [h1, ceilDiv]
  simp -implicitDefEqProofs [h1]
  refine callQ_of (hI _ _ _) ?_
  by_cases h2 : InQ b 1 1000000000000
  rotate_left
  · simp -implicitDefEqProofs [h2, ceilDiv]
  have w1 : IntKind.i64.wrap (a + b) = a + b := wrap_id (by omega) (by omega)
  have w2 : IntKind.i64.wrap (a + b - 1) = a + b - 1 := wrap_id (by omega) (by omega)
  have w3 := tdiv_fit (a := a + b - 1) (b := b) (by omega) (by omega) (by omega)
  have h0 : ¬ b = 0 := by omega
  have e : ceilDiv a b = (a + b - 1).tdiv b := by unfold ceilDiv; rw [if_pos ⟨h1, h2⟩]
  simp -implicitDefEqProofs [h2, w1, w2, w3, h0, e]
theorem iCeilDiv_b (D : Dn) (hI : InS (D gimpl_InRange)) : CeilDivS (Body D simpl_CeilDiv) := by
  intro a b
  simp -implicitDefEqProofs
  refine callQ_of (hI _ _ _) ?_
  by_cases h1 : InQ a 0 1000000000000
  rotate_left
  · simp -implicitDefEqProofs [h1, ceilDiv]
  simp -implicitDefEqProofs [h1]
  refine callQ_of (hI _ _ _) ?_
  by_cases h2 : InQ b 1 1000000000000
  rotate_left
  · simp -implicitDefEqProofs [h2, ceilDiv]
  have w1 : IntKind.i64.wrap (a + b) = a + b := wrap_id (by omega) (by omega)
  have w2 : IntKind.i64.wrap (a + b - 1) = a + b - 1 := wrap_id (by omega) (by omega)
  have w3 := tdiv_fit (a := a + b - 1) (b := b) (by omega) (by omega) (by omega)
  have h0 : ¬ b = 0 := by omega
  have e : ceilDiv a b = (a + b - 1).tdiv b := by unfold ceilDiv; rw [if_pos ⟨h1, h2⟩]
  simp -implicitDefEqProofs [h2, w1, w2, w3, h0, e]
end Go.Eng.T

namespace Go.Eng.T
set_option maxRecDepth 20000

theorem rises_at {xs : List Int} {n : Nat} (h : risesF xs n = true) {i : Nat} (hi : i < n) : InQ (xs.getD i 0) 1 100 := by
  unfold risesF at h
  have := List.all_eq_true.1 h i (List.mem_range.2 hi)
  simp at this
  exact ⟨this.1.1, this.1.2⟩
theorem roll_pos {r : Rollout} (h : isRollout r = true) : 0 ≤ r.pos ∧ r.pos < r.stages.length ∧ r.stages.length ≤ 5 ∧ InQ (r.stages.getD r.pos.toNat 0) 1 100 := by
  unfold isRollout at h
  simp only [Bool.and_eq_true, decide_eq_true_eq] at h
  obtain ⟨h1, ⟨⟨h2, h3⟩, h4⟩, h5⟩ := h
  refine ⟨h5.1, by omega, by omega, rises_at h1 (by omega)⟩
def countIn (r : Rollout) (n : Int) : Int := if isRollout r = true ∧ r.off = false ∧ InQ n 0 10000 then ceilDiv (n * r.stages.getD r.pos.toNat 0) 100 else 0
abbrev CountInS (R : Rel) : Prop := ∀ (r : Rollout) (n : Int), r.stages.length ≤ 4194304 → R [arg (eRollout r), I n] [] (I (countIn r n)) []
theorem mul_fit {n x : Int} (h1 : InQ n 0 10000) (h2 : InQ x 1 100) : IntKind.i64.wrap (n * x) = n * x := by
  have a1 : 0 ≤ n * x := Int.mul_nonneg h1.1 (by omega)
  have a2 : n * x ≤ 10000 * 100 := Int.mul_le_mul h1.2 h2.2 (by omega) (by omega)
  exact wrap_id (by omega) (by omega)
theorem sCountIn_b (D : Dn) (hR : IsRolloutS (D gspec_IsRollout)) (hI : InS (D gspec_l1In)) (hC : CeilDivS (D gspec_CeilDiv)) : CountInS (Body D sspec_CountIn) := by
  intro r n hl
  simp -implicitDefEqProofs
  refine callQ_of (hR r hl) ?_
  by_cases h1 : isRollout r = true
  rotate_left
  · simp -implicitDefEqProofs [h1, countIn]
  by_cases h2 : r.off = true
  · simp -implicitDefEqProofs [h1, h2, countIn]
  simp -implicitDefEqProofs [h1, h2]
  refine callQ_of (hI _ _ _) ?_
  by_cases h3 : InQ n 0 10000
  rotate_left
  · simp -implicitDefEqProofs [h3, countIn]
  obtain ⟨p1, p2, p3, p4⟩ := roll_pos h1
  obtain ⟨q, hq⟩ : ∃ q : Nat, r.pos = q := ⟨r.pos.toNat, by omega⟩
  have hq2 : q < r.stages.length := by omega
  have e : countIn r n = ceilDiv (n * r.stages[q]) 100 := by unfold countIn; rw [if_pos ⟨h1, by simpa using h2, h3⟩, hq]; simp [hq2]
  have p4' : InQ r.stages[q] 1 100 := by rw [hq] at p4; simpa [hq2] using p4
  have hw := mul_fit h3 p4'
  simp -implicitDefEqProofs [h3, hq, hq2, hw]
  refine callQ_of (hC _ _) ?_
  simp -implicitDefEqProofs [e]
theorem iCountIn_b (D : Dn) (hR : IsRolloutS (D gimpl_IsRollout)) (hI : InS (D gimpl_InRange)) (hC : CeilDivS (D gimpl_CeilDiv)) : CountInS (Body D simpl_CountIn) := by
  intro r n hl
  simp -implicitDefEqProofs
  refine callQ_of (hR r hl) ?_
  by_cases h1 : isRollout r = true
  rotate_left
  · simp -implicitDefEqProofs [h1, countIn]
  by_cases h2 : r.off = true
  · simp -implicitDefEqProofs [h1, h2, countIn]
  simp -implicitDefEqProofs [h1, h2]
  refine callQ_of (hI _ _ _) ?_
  by_cases h3 : InQ n 0 10000
  rotate_left
  · simp -implicitDefEqProofs [h3, countIn]
  obtain ⟨p1, p2, p3, p4⟩ := roll_pos h1
  obtain ⟨q, hq⟩ : ∃ q : Nat, r.pos = q := ⟨r.pos.toNat, by omega⟩
  have hq2 : q < r.stages.length := by omega
  have e : countIn r n = ceilDiv (n * r.stages[q]) 100 := by unfold countIn; rw [if_pos ⟨h1, by simpa using h2, h3⟩, hq]; simp [hq2]
  have p4' : InQ r.stages[q] 1 100 := by rw [hq] at p4; simpa [hq2] using p4
  have hw := mul_fit h3 p4'
  simp -implicitDefEqProofs [h3, hq, hq2, hw]
  refine callQ_of (hC _ _) ?_
  simp -implicitDefEqProofs [e]

def isIn (r : Rollout) (i n : Int) : Bool := decide (0 ≤ i) && decide (i < n) && decide (i < countIn r n)
abbrev IsInS (R : Rel) : Prop := ∀ (r : Rollout) (i n : Int), r.stages.length ≤ 4194304 → R [arg (eRollout r), I i, I n] [] (B (isIn r i n)) []
abbrev hasEndS (R : Rel) : Prop := ∀ (w : World) (i : Int), w.ends.length ≤ 4194304 → R [arg (eWorld w), I i] [] (B (decide (InQ i 0 ((w.ends.length : Int) - 1)))) []
def isOnNew (w : World) (i : Int) : Bool := decide (InQ i 0 ((w.ends.length : Int) - 1)) && isIn w.rollout i w.ends.length && (match w.ends[i.toNat]? with | some e => decide (w.rollout.version ∈ e.versions) | none => false)
theorem world_vers' {w : World} (h : szWorld w ≤ 4194304) {j : Nat} (hj : j < w.ends.length) : w.ends[j].versions.length ≤ maxLen := by
  have := size_at (f := szEndpoint) hj
  have e : szEndpoint w.ends[j] = w.ends[j].versions.length + w.ends[j].tags.length + sumF szBox w.ends[j].path := rfl
  unfold szWorld at h
  unfold maxLen; omega
theorem world_roll {w : World} (h : szWorld w ≤ 4194304) : w.rollout.stages.length ≤ 4194304 := by unfold szWorld szRollout at h; omega
abbrev IsOnNewS (R : Rel) : Prop := ∀ (w : World) (i : Int), szWorld w ≤ 4194304 → R [arg (eWorld w), I i] [] (B (isOnNew w i)) []
end Go.Eng.T

namespace Go.Eng.T
set_option maxRecDepth 20000

abbrev cpRolloutS (R : Rel) : Prop := ∀ r : Rollout, szRollout r ≤ 4194304 → R [arg (eRollout r)] [] (.agg (eRollout r)) []
theorem l26Copy_b (D : Dn) : cpRolloutS (Body D sspec_l26Copy) := by
  intro r h
  have hb : r.stages.length * 8 ≤ 1099511627776 := by unfold szRollout at h; omega
  simp -implicitDefEqProofs [hb]
abbrev cpDialedS (R : Rel) : Prop := ∀ d : Dialed, szDialed d ≤ 4194304 → R [arg (eDialed d)] [] (.agg (eDialed d)) []
theorem take_flat {α : Type} {f : α → List V} {xs : List α} {j : Nat} (h : j < xs.length) : (xs.take j).flatMap f ++ f xs[j] = (xs.take (j + 1)).flatMap f := by
  have e : xs.take (j + 1) = xs.take j ++ [xs[j]] := by simp
  rw [e, List.flatMap_append]; simp
abbrev cpPathS (R : Rel) : Prop := ∀ xs : List Box, sumF szBox xs ≤ 4194304 → R [.sl 1 4 xs.length (xs.flatMap eBox)] [] (.sl 0 4 xs.length (xs.flatMap eBox)) []
abbrev cpEndpointS (R : Rel) : Prop := ∀ x : Endpoint, szEndpoint x ≤ 4194304 → R [arg (eEndpoint x)] [] (.agg (eEndpoint x)) []
end Go.Eng.T

namespace Go.Eng.T
set_option maxRecDepth 20000

abbrev InR (a b c : Int) : Prop := b ≤ a ∧ a ≤ c
def signalOf (g b l p : Int) : Int :=
  if ¬ InR g 0 10000 ∨ ¬ InR b 0 10000 ∨ ¬ InR l 1 10000 ∨ ¬ InR p 0 100 then 0
  else if 100 * b > p * l ∧ 100 * b > p * (g + b) then 2
  else if g + b < l then 0
  else if 100 * b ≤ p * (g + b) then 1
  else 2
abbrev SignalOfS (R : Rel) : Prop := ∀ g b l p : Int, R [I g, I b, I l, I p] [] (I (signalOf g b l p)) []
theorem mul_small {p x : Int} (h1 : 0 ≤ p) (h2 : p ≤ 100) (h3 : 0 ≤ x) (h4 : x ≤ 20000) : IntKind.i64.wrap (p * x) = p * x := by
  have a1 : 0 ≤ p * x := Int.mul_nonneg h1 h3
  have a2 : p * x ≤ 100 * 20000 := Int.mul_le_mul h2 h4 h3 (by omega)
  exact wrap_id (by omega) (by omega)
end Go.Eng.T

namespace Go.Eng.T
set_option maxRecDepth 20000

/-- where p holds first (from i on), or -1 -/
def idxP {α : Type} (p : α → Bool) : List α → Int → Int
  | [], _ => -1
  | x :: r, i => if p x then i else idxP p r (i + 1)
theorem idxP_drop {α : Type} {p : α → Bool} {xs : List α} {j : Nat} (h : j < xs.length) : idxP p (xs.drop j) j = if p xs[j] then (j : Int) else idxP p (xs.drop (j + 1)) ((j : Int) + 1) := by
  rw [List.drop_eq_getElem_cons h]; rfl
theorem idxP_end {α : Type} {p : α → Bool} {xs : List α} {j : Nat} (h : xs.length ≤ j) : idxP p (xs.drop j) j = -1 := by rw [List.drop_eq_nil_of_le h]; rfl
theorem idxP_ge {α : Type} {p : α → Bool} : ∀ {xs : List α} {i : Int}, 0 ≤ i → (0 ≤ idxP p xs i) = (xs.any p = true)
  | [], i, _ => by simp [idxP]
  | x :: r, i, h => by
    by_cases hp : p x = true
    · simp [idxP, hp, h]
    · have := idxP_ge (p := p) (xs := r) (i := i + 1) (by omega)
      simp [idxP, hp] at *
      exact this

/-- what is captured goes over as it is -/
def CapOk (caps : List V) : Prop := (∀ (H : Hp) (n : Nat), ownArgs H n (caps.map fun v => (false, v)) = some []) ∧ (∀ (H Hr : Hp) (n : Nat), callArgs H Hr n (caps.map fun v => (false, v)) = some caps) ∧ ∀ H : Hp, ro2L H caps = some caps
theorem capOk_nil : CapOk [] := ⟨fun _ _ => rfl, fun _ _ _ => rfl, fun _ => rfl⟩
theorem capOk_cons {v : V} {r : List V} (hv : ∀ H, ro H v = some v) (hv2 : ∀ H, ro2 H v = some v) (h : CapOk r) : CapOk (v :: r) :=
  ⟨fun H n => h.1 H n, fun H Hr n => by simp only [List.map_cons, callArgs, hv, h.2.1], fun H => by simp only [ro2L, hv2, h.2.2]⟩
theorem capOk_int {a : Int} {r : List V} (h : CapOk r) : CapOk (.rptr 1 [.sc (.int .i64 a)] 0 :: r) := capOk_cons (fun H => by simp) (fun H => by simp) h

abbrev IndexFuncS (D : Dn) (R : Rel) : Prop := ∀ (xs : List Int) (g : Nat) (caps : List V) (p : Int → Bool), xs.length ≤ maxLen → CapOk caps → (∀ x : Int, D g (I x :: caps) [] (B (p x)) []) →
  R [.sl 1 1 xs.length (ints xs), .fn g caps] [] (I (idxP p xs 0)) []
abbrev ContainsFuncS (D : Dn) (R : Rel) : Prop := ∀ (xs : List Int) (g : Nat) (caps : List V) (p : Int → Bool), xs.length ≤ maxLen → CapOk caps → (∀ x : Int, D g (I x :: caps) [] (B (p x)) []) →
  R [.sl 1 1 xs.length (ints xs), .fn g caps] [] (B (xs.any p)) []
def allIn (xs : List Int) (lo hi : Int) : Bool := xs.all fun x => decide (InR x lo hi)
abbrev areNumbersS (R : Rel) : Prop := ∀ (xs : List Int) (lo hi : Int), xs.length ≤ maxLen → R [.sl 1 1 xs.length (ints xs), I lo, I hi] [] (B (allIn xs lo hi)) []
abbrev areNumbers1S (R : Rel) : Prop := ∀ (x lo hi : Int), R [I x, .rptr 1 [I lo] 0, .rptr 1 [I hi] 0] [] (B (!decide (InR x lo hi))) []
end Go.Eng.T

namespace Go.Eng.T

structure Ext where
  tag : Int
  body : List Int
  deriving DecidableEq
structure Hello where
  versions : List Int
  exts : List Ext
  deriving DecidableEq
structure Answer where
  version : Int
  exts : List Ext
  deriving DecidableEq
def eExt (x : Ext) : List V := [.sc (.int .i64 x.tag), .sl 0 1 x.body.length (ints x.body)]
def eHello (h : Hello) : List V := [.sl 0 1 h.versions.length (ints h.versions), .sl 0 2 h.exts.length (h.exts.flatMap eExt)]
def eAnswer (a : Answer) : List V := [.sc (.int .i64 a.version), .sl 0 2 a.exts.length (a.exts.flatMap eExt)]
theorem eExt_len (x : Ext) : (eExt x).length = 2 := rfl
@[simp] theorem eExt_ro (xs : List Ext) : (xs.flatMap eExt).map (roCell 0) = xs.flatMap eExt := flat_ro (fun _ => rfl) xs
@[simp high] theorem eExt_at {xs : List Ext} {j : Nat} (h : j < xs.length) : getAt (xs.flatMap eExt) (j * 2) 2 = some (eExt xs[j]) := getAt_flat eExt_len h
@[simp high] theorem eExt_flen (xs : List Ext) : (xs.flatMap eExt).length = xs.length * 2 := flat_len eExt_len xs
theorem eExt_push (xs : List Ext) (a : Int) (b : List Int) {nb : Nat} (hb : nb = b.length) : xs.flatMap eExt ++ [.sc (.int .i64 a), .sl 0 1 nb (ints b)] = (xs ++ [(⟨a, b⟩ : Ext)]).flatMap eExt := by subst hb; simp [eExt]
@[simp high] theorem eExt_c0 {xs : List Ext} {j : Nat} (h : j < xs.length) : (xs.flatMap eExt)[j * 2]? = some (.sc (.int .i64 xs[j].tag)) := by
  have := getCell_flat (o := 0) eExt_len h (by omega)
  simpa [eExt] using this
@[simp high] theorem eExt_c1 {xs : List Ext} {j : Nat} (h : j < xs.length) : (xs.flatMap eExt)[j * 2 + 1]? = some (.sl 0 1 xs[j].body.length (ints xs[j].body)) := by
  have := getCell_flat (o := 1) eExt_len h (by omega)
  simpa [eExt] using this
theorem flat_take {α : Type} {f : α → List V} {e : Nat} (hf : ∀ x, (f x).length = e) (xs : List α) (i : Nat) : (xs.flatMap f).take (i * e) = (xs.take i).flatMap f := by
  induction xs generalizing i with
  | nil => simp
  | cons x xs ih =>
    cases i with
    | zero => simp
    | succ i =>
      simp only [List.flatMap_cons, List.take_succ_cons]
      rw [← ih i, show (i + 1) * e = (f x).length + i * e by rw [hf, Nat.add_mul]; omega, List.take_length_add_append]
theorem part_flat {α : Type} {f : α → List V} {e : Nat} (hf : ∀ x, (f x).length = e) (xs : List α) (o n : Nat) : part (xs.flatMap f) e o n = ((xs.drop o).take n).flatMap f := by
  unfold part
  rw [flat_drop hf, flat_take hf]
@[simp high] theorem eExt_part (xs : List Ext) (o n : Nat) : part (xs.flatMap eExt) 2 o n = ((xs.drop o).take n).flatMap eExt := part_flat eExt_len xs o n
attribute [simp] eExt eHello eAnswer

/-- lists that are small enough to be copied -/
def exB (l : List Ext) : Prop := l.length ≤ 4194304 ∧ ∀ x, x ∈ l → x.body.length ≤ 4194304
theorem exB_at {l : List Ext} (h : exB l) {j : Nat} (hj : j < l.length) : l[j].body.length ≤ 4194304 := h.2 _ (List.getElem_mem hj)
theorem exB_nil : exB [] := ⟨by simp, by simp⟩
theorem exB_filter {l : List Ext} (h : exB l) (p : Ext → Bool) : exB (l.filter p) :=
  ⟨Nat.le_trans (List.length_filter_le p l) h.1, fun x hx => h.2 x (List.mem_filter.1 hx).1⟩
theorem exB_take {l : List Ext} (h : exB l) (n : Nat) : exB (l.take n) :=
  ⟨by have := h.1; simp; omega, fun x hx => h.2 x (List.mem_of_mem_take hx)⟩
theorem exB_one {l : List Ext} (h : exB l) {j : Nat} (hj : j < l.length) : exB [l[j]] :=
  ⟨by simp, fun x hx => by obtain rfl := List.mem_singleton.1 hx; exact exB_at h hj⟩

/-- for all i less than j -/
def allTo (q : Nat → Bool) (j : Nat) : Bool := (List.range j).all q
@[simp] theorem allTo_zero (q : Nat → Bool) : allTo q 0 = true := rfl
theorem allTo_step (q : Nat → Bool) (j : Nat) : allTo q (j + 1) = (allTo q j && q j) := by
  unfold allTo
  rw [List.range_succ, List.all_append]
  simp
theorem allTo_no {q : Nat → Bool} {j n : Nat} (h : j < n) (hn : q j = false) : allTo q n = false := by
  have : ∀ m, allTo q (j + 1 + m) = false := by
    intro m
    induction m with
    | zero => rw [Nat.add_zero, allTo_step, hn]; simp
    | succ m ih => rw [show j + 1 + (m + 1) = (j + 1 + m) + 1 by omega, allTo_step, ih]; rfl
  have := this (n - (j + 1))
  rwa [show j + 1 + (n - (j + 1)) = n by omega] at this
theorem allTo_iff {q : Nat → Bool} {n : Nat} : allTo q n = true ↔ ∀ i, i < n → q i = true := by
  unfold allTo
  rw [List.all_eq_true]
  simp
theorem filtE_step {α : Type} {p : α → Bool} {xs : List α} {j : Nat} (h : j < xs.length) : (xs.take (j + 1)).filter p = (xs.take j).filter p ++ (if p xs[j] then [xs[j]] else []) := by
  have e : xs.take (j + 1) = xs.take j ++ [xs[j]] := by simp
  rw [e, List.filter_append]
  by_cases hp : p xs[j] = true <;> simp [hp]
theorem filtE_all {α : Type} {p : α → Bool} {xs : List α} {j : Nat} (h : xs.length ≤ j) : (xs.take j).filter p = xs.filter p := by rw [List.take_of_length_le h]
theorem filtE_len {α : Type} {p : α → Bool} {xs : List α} {j : Nat} : ((xs.take j).filter p).length ≤ j := by
  have := List.length_filter_le p (xs.take j)
  have h2 : (xs.take j).length ≤ j := by simp; omega
  omega
end Go.Eng.T

namespace Go.Eng.T
set_option maxRecDepth 20000
theorem world_roll' {w : World} (h : szWorld w ≤ 4194304) : szRollout w.rollout ≤ 4194304 := by unfold szWorld at h; omega
theorem world_szs {w : World} (h : szWorld w ≤ 4194304) : w.server.length ≤ 4194304 ∧ w.tags.length ≤ 4194304 ∧ sumF szEndpoint w.ends ≤ 4194304 ∧ sumF szDialed w.stage ≤ 4194304 ∧ sumF szLogged w.log ≤ 4194304 := by unfold szWorld at h; omega
abbrev cpWorldS (R : Rel) : Prop := ∀ w : World, szWorld w ≤ 4194304 → R [arg (eWorld w)] [] (.agg (eWorld w)) []
end Go.Eng.T

namespace Go.Eng.T
set_option maxRecDepth 20000

def stepTick (w : World) (n : Int) : World × Bool := if InQ n 1 100 ∧ InQ w.now 0 (10000 - n) then ({ w with now := w.now + n }, true) else (w, false)
abbrev StepTickS (R : Rel) : Prop := ∀ (w : World) (n : Int), szWorld w ≤ 4194304 → R [arg (eWorld w), I n] [] (.tup [.agg (eWorld (stepTick w n).1), B (stepTick w n).2]) []
theorem stepTick_sz (w : World) (n : Int) : szWorld (stepTick w n).1 = szWorld w := by unfold stepTick; split <;> rfl

/-- the path of the endpoint i put aside -/
def clearEnd (w : World) (i : Nat) : World := match w.ends[i]? with
  | some x => { w with ends := w.ends.set i ⟨x.versions, x.tags, [], x.cls⟩ }
  | none => w
def stepClear (w : World) (i : Int) : World × Bool :=
  if 0 ≤ i then (match w.ends[i.toNat]? with
    | some x => if x.path = [] then (w, false) else (clearEnd w i.toNat, true)
    | none => (w, false)) else (w, false)
abbrev StepClearS (R : Rel) : Prop := ∀ (w : World) (i : Int), szWorld w ≤ 4194304 → R [arg (eWorld w), I i] [] (.tup [.agg (eWorld (stepClear w i).1), B (stepClear w i).2]) []
theorem stepClear_out {w : World} {i : Int} (h : ¬ InQ i 0 ((w.ends.length : Int) - 1)) : stepClear w i = (w, false) := by
  unfold stepClear
  by_cases h0 : 0 ≤ i
  · rw [if_pos h0, List.getElem?_eq_none (by omega)]
  · rw [if_neg h0]
theorem sum_set {α : Type} {f : α → Nat} : ∀ {xs : List α} {j : Nat} (h : j < xs.length) (y : α), ((xs.set j y).map f).sum + f xs[j] = (xs.map f).sum + f y
  | [], j, h, _ => by simp at h
  | x :: r, 0, h, y => by simp; omega
  | x :: r, j + 1, h, y => by
    have := sum_set (f := f) (xs := r) (j := j) (by simpa using h) y
    simp at *
    omega
theorem size_set {α : Type} {f : α → Nat} {xs : List α} {j : Nat} (h : j < xs.length) (y : α) : sumF f (xs.set j y) + f xs[j] = sumF f xs + f y := by
  have := sum_set (f := f) h y
  unfold sumF; simp only [List.length_set]; omega
theorem stepClear_sz (w : World) (i : Int) : szWorld (stepClear w i).1 ≤ szWorld w := by
  unfold stepClear
  split
  · split
    · rename_i x hx
      split
      · exact Nat.le_refl _
      · unfold clearEnd
        rw [hx]
        obtain ⟨hj, rfl⟩ := List.getElem?_eq_some_iff.1 hx
        have := size_set (f := szEndpoint) hj ⟨w.ends[i.toNat].versions, w.ends[i.toNat].tags, [], w.ends[i.toNat].cls⟩
        have e1 : szEndpoint ⟨w.ends[i.toNat].versions, w.ends[i.toNat].tags, [], w.ends[i.toNat].cls⟩ ≤ szEndpoint w.ends[i.toNat] := by unfold szEndpoint sumF; simp
        simp only [szWorld]
        omega
    · exact Nat.le_refl _
  · exact Nat.le_refl _
end Go.Eng.T

namespace Go.Eng.T
set_option maxRecDepth 20000

theorem allIn_step {xs : List Int} {lo hi : Int} {j : Nat} (h : j < xs.length) : allIn (xs.take (j + 1)) lo hi = (allIn (xs.take j) lo hi && decide (InR xs[j] lo hi)) := by
  have e : xs.take (j + 1) = xs.take j ++ [xs[j]] := by simp
  unfold allIn
  rw [e, List.all_append]; simp
theorem allIn_no {xs : List Int} {lo hi : Int} {j : Nat} (h : j < xs.length) (hn : ¬ InR xs[j] lo hi) : allIn xs lo hi = false := by
  unfold allIn
  rw [List.all_eq_false]
  exact ⟨xs[j], List.getElem_mem h, by simp [hn]⟩
theorem allIn_all {xs : List Int} {lo hi : Int} {j : Nat} (h : xs.length ≤ j) (ha : allIn (xs.take j) lo hi = true) : allIn xs lo hi = true := by rwa [List.take_of_length_le h] at ha
abbrev l9ByteS (R : Rel) : Prop := ∀ xs : List Int, xs.length ≤ maxLen → R [.sl 1 1 xs.length (ints xs)] [] (B (allIn xs 0 255)) []
def isBox (b : Box) : Bool := decide (InR b.limit 0 9) && decide (b.drops.length ≤ 6) && decide (b.strips.length ≤ 6) && allIn b.drops 0 255 && allIn b.strips 0 255
abbrev IsBoxS (R : Rel) : Prop := ∀ b : Box, lnBox b → R [arg (eBox b)] [] (B (isBox b)) []
def stepBox (w : World) (i : Int) (b : Box) : World × Bool :=
  if 0 ≤ i then (match w.ends[i.toNat]? with
    | some x => if isBox b = true ∧ x.path.length < 4 then ({ w with ends := w.ends.set i.toNat ⟨x.versions, x.tags, x.path ++ [b], x.cls⟩ }, true) else (w, false)
    | none => (w, false)) else (w, false)
abbrev StepBoxS (R : Rel) : Prop := ∀ (w : World) (i : Int) (b : Box), szWorld w ≤ 4194304 → szBox b ≤ 4194304 → R [arg (eWorld w), I i, arg (eBox b)] [] (.tup [.agg (eWorld (stepBox w i b).1), B (stepBox w i b).2]) []
theorem stepBox_out {w : World} {i : Int} {b : Box} (h : ¬ InQ i 0 ((w.ends.length : Int) - 1)) : stepBox w i b = (w, false) := by
  unfold stepBox
  by_cases h0 : 0 ≤ i
  · rw [if_pos h0, List.getElem?_eq_none (by omega)]
  · rw [if_neg h0]
theorem ln_of_sz {b : Box} (h : szBox b ≤ 4194304) : lnBox b := by unfold szBox at h; unfold lnBox lnInts maxLen; omega
theorem stepBox_sz (w : World) (i : Int) (b : Box) : szWorld (stepBox w i b).1 ≤ szWorld w + 1 + szBox b := by
  unfold stepBox
  split
  · split
    · rename_i x hx
      split
      · obtain ⟨hj, rfl⟩ := List.getElem?_eq_some_iff.1 hx
        have := size_set (f := szEndpoint) hj ⟨w.ends[i.toNat].versions, w.ends[i.toNat].tags, w.ends[i.toNat].path ++ [b], w.ends[i.toNat].cls⟩
        have e1 : szEndpoint ⟨w.ends[i.toNat].versions, w.ends[i.toNat].tags, w.ends[i.toNat].path ++ [b], w.ends[i.toNat].cls⟩ = szEndpoint w.ends[i.toNat] + 1 + szBox b := by unfold szEndpoint sumF; simp; omega
        simp only [szWorld]
        omega
      · show szWorld w ≤ _; omega
    · show szWorld w ≤ _; omega
  · show szWorld w ≤ _; omega
end Go.Eng.T

namespace Go.Eng.T
set_option maxRecDepth 20000
abbrev IndexFuncEndpointS (D : Dn) (R : Rel) : Prop := ∀ (xs : List Endpoint) (g : Nat) (caps : List V) (p : Endpoint → Bool), xs.length ≤ maxLen → CapOk caps → (∀ (j : Nat) (h : j < xs.length), D g (arg (eEndpoint xs[j]) :: caps) [] (B (p xs[j])) []) → R [.sl 1 4 xs.length (xs.flatMap eEndpoint), .fn g caps] [] (I (idxP p xs 0)) []
abbrev ContainsFuncEndpointS (D : Dn) (R : Rel) : Prop := ∀ (xs : List Endpoint) (g : Nat) (caps : List V) (p : Endpoint → Bool), xs.length ≤ maxLen → CapOk caps → (∀ (j : Nat) (h : j < xs.length), D g (arg (eEndpoint xs[j]) :: caps) [] (B (p xs[j])) []) → R [.sl 1 4 xs.length (xs.flatMap eEndpoint), .fn g caps] [] (B (xs.any p)) []
abbrev IndexFuncLoggedS (D : Dn) (R : Rel) : Prop := ∀ (xs : List Logged) (g : Nat) (caps : List V) (p : Logged → Bool), xs.length ≤ maxLen → CapOk caps → (∀ (j : Nat) (h : j < xs.length), D g (arg (eLogged xs[j]) :: caps) [] (B (p xs[j])) []) → R [.sl 1 8 xs.length (xs.flatMap eLogged), .fn g caps] [] (I (idxP p xs 0)) []
abbrev ContainsFuncLoggedS (D : Dn) (R : Rel) : Prop := ∀ (xs : List Logged) (g : Nat) (caps : List V) (p : Logged → Bool), xs.length ≤ maxLen → CapOk caps → (∀ (j : Nat) (h : j < xs.length), D g (arg (eLogged xs[j]) :: caps) [] (B (p xs[j])) []) → R [.sl 1 8 xs.length (xs.flatMap eLogged), .fn g caps] [] (B (xs.any p)) []
abbrev IndexFuncBoxS (D : Dn) (R : Rel) : Prop := ∀ (xs : List Box) (g : Nat) (caps : List V) (p : Box → Bool), xs.length ≤ maxLen → CapOk caps → (∀ (j : Nat) (h : j < xs.length), D g (arg (eBox xs[j]) :: caps) [] (B (p xs[j])) []) → R [.sl 1 4 xs.length (xs.flatMap eBox), .fn g caps] [] (I (idxP p xs 0)) []
abbrev ContainsFuncBoxS (D : Dn) (R : Rel) : Prop := ∀ (xs : List Box) (g : Nat) (caps : List V) (p : Box → Bool), xs.length ≤ maxLen → CapOk caps → (∀ (j : Nat) (h : j < xs.length), D g (arg (eBox xs[j]) :: caps) [] (B (p xs[j])) []) → R [.sl 1 4 xs.length (xs.flatMap eBox), .fn g caps] [] (B (xs.any p)) []
end Go.Eng.T

namespace Go.Eng.T
set_option maxRecDepth 20000

def isReserved (t : Int) : Bool := decide (InR t 0 255) && decide (t.tmod 16 = 10)
abbrev IsReservedS (R : Rel) : Prop := ∀ t : Int, R [I t] [] (B (isReserved t)) []
abbrev IsHardenedS (R : Rel) : Prop := ∀ xs : List Int, xs.length ≤ maxLen → R [.sl 1 1 xs.length (ints xs)] [] (B (xs.any isReserved)) []
theorem any_here {α : Type} {p : α → Bool} {xs : List α} {j : Nat} (h : j < xs.length) (hp : p xs[j] = true) : xs.any p = true := List.any_eq_true.2 ⟨_, List.getElem_mem h, hp⟩
theorem any_step {α : Type} {p : α → Bool} {xs : List α} {j : Nat} (h : j < xs.length) : (xs.take (j + 1)).any p = ((xs.take j).any p || p xs[j]) := by
  have e : xs.take (j + 1) = xs.take j ++ [xs[j]] := by simp
  rw [e, List.any_append]; simp
theorem any_none {α : Type} {p : α → Bool} {xs : List α} {j : Nat} (h : xs.length ≤ j) (ha : (xs.take j).any p = false) : xs.any p = false := by rwa [List.take_of_length_le h] at ha
def drunkL (l : Logged) : Bool := l.dialed.deal.ok && (l.dialed.deal.tags.any isReserved || !decide (InR l.dialed.deal.version 1 9))
abbrev IsSoberS (R : Rel) : Prop := ∀ w : World, szWorld w ≤ 4194304 → R [arg (eWorld w)] [] (B (!w.log.any drunkL)) []
theorem world_dtags {w : World} (h : szWorld w ≤ 4194304) {j : Nat} (hj : j < w.log.length) : w.log[j].dialed.deal.tags.length ≤ maxLen := by
  have := size_at (f := szLogged) hj
  have e : szLogged w.log[j] = w.log[j].dialed.deal.tags.length + w.log[j].dialed.up.length := rfl
  unfold szWorld at h
  unfold maxLen; omega
abbrev IsSober1S (R : Rel) : Prop := ∀ l : Logged, l.dialed.deal.tags.length ≤ maxLen → R [arg (eLogged l)] [] (B (drunkL l)) []
end Go.Eng.T

namespace Go.Eng.T
def slaws_FnExactIsBounded_r0 : Reg :=
  { id := 0, ops := [{ op := .box 0 (.slot 0) },
      { op := .mv (.con (.sc (.bool false))) }], sets := [(1, 0)], clr := [0, 2] }
def slaws_FnExactIsBounded_r1 : Reg :=
  { id := 1, ops := [{ op := .mv (.con (.sc (.int .i64 1048576))) }], sets := [(3, 0)] }
def slaws_FnExactIsBounded_r2 : Reg :=
  { id := 2, ops := [{ op := .load (some 15) (.slot 1) },
      { op := .mv (.slot 3) },
      { op := .call 7 [(false, .loc 0), (false, .loc 1)] [] },
      { op := .mv (.loc 2) }], sets := [(3, 3)] }
def slaws_FnExactIsBounded_r3 : Reg :=
  { id := 3, ops := [{ op := .mv (.slot 3) },
      { op := .bin .lss (.loc 0) (.con (.sc (.int .i64 0))) }], sets := [(7, 1)], clr := [3] }
def slaws_FnExactIsBounded_r4 : Reg :=
  { id := 4, ops := [{ op := .mv (.con (.sc (.bool true))) }], sets := [(2, 0)], clr := [1] }
def slaws_FnExactIsBounded_r5 : Reg :=
  { id := 5, ops := [{ op := .load (some 15) (.slot 1) },
      { op := .call 8 [(false, .loc 0)] [1, 2, 3, 4, 5, 6] },
      { op := .call 161 [(false, .loc 1)] [] },
      { op := .mv (.loc 2) }], sets := [(4, 3)] }
def slaws_FnExactIsBounded_r6 : Reg :=
  { id := 6, ops := [{ op := .load (some 15) (.slot 1) },
      { op := .call 8 [(false, .loc 0)] [7, 8, 9, 10, 11, 12] },
      { op := .alloc 13 [.nil 1, .nil 1, .sc (.int .i64 0), .nil 4, .sc (.int .i64 0), .nil 1, .sc (.int .i64 0), .sc (.bool false), .sc (.int .i64 0), .sc (.int .i64 0), .nil 5, .nil 8, .sc (.int .i64 0), .sc (.int .i64 0), .sc (.int .i64 0)] },
      { op := .store 15 (.loc 2) (.loc 1) }], sets := [(5, 2)] }
def slaws_FnExactIsBounded_r7 : Reg :=
  { id := 7, ops := [{ op := .load (some 15) (.slot 5) },
      { op := .call 200 [(false, .loc 0)] [] },
      { op := .mv (.loc 1) }], sets := [(6, 2)] }
def slaws_FnExactIsBounded_r8 : Reg :=
  { id := 8, ops := [{ op := .mv (.slot 6) },
      { op := .mv (.slot 4) },
      { op := .beq true (.loc 0) (.loc 1) }], sets := [(8, 2)], clr := [4, 6] }
def slaws_FnExactIsBounded_r9 : Reg :=
  { id := 9, ops := [{ op := .mv (.con (.sc (.bool false))) }], sets := [(2, 0)], clr := [1, 5] }
def slaws_FnExactIsBounded_r10 : Reg :=
  { id := 10, draw := true, ops := [{ op := .load (some 15) (.slot 5), tau := some [13], om := [] },
      { op := .load (some 15) (.slot 1), tau := some [0], om := [] },
      { op := .call 8 [(false, .loc 1)] [14, 15, 16, 17, 18, 19], tau := some [14, 15, 16, 17, 18, 19], om := [14, 15, 16, 17, 18, 19] },
      { op := .call 11 [(false, .loc 0), (false, .loc 2)] [], tau := some [7, 8, 9, 10, 11, 12, 14, 15, 16, 17, 18, 19], om := [] },
      { op := .un .not (.loc 3), tau := some [], om := [] }], sets := [(9, 4)], clr := [1, 5] }
def slaws_FnExactIsBounded_r11 : Reg :=
  { id := 11, ops := [{ op := .mv (.con (.sc (.bool false))) }], sets := [(2, 0)] }
def slaws_FnExactIsBounded_r12 : Reg :=
  { id := 12, ops := [{ op := .mv (.con (.sc (.bool true))) }], sets := [(2, 0)] }
def slaws_FnExactIsBounded_b : SC := .seq (.reg slaws_FnExactIsBounded_r0) (.seq (.reg slaws_FnExactIsBounded_r1) (.seq (.reg slaws_FnExactIsBounded_r2) (.seq (.seq (.reg slaws_FnExactIsBounded_r3) (.cond 7 (.seq (.reg slaws_FnExactIsBounded_r4) (.ret)) (.skip))) (.seq (.reg slaws_FnExactIsBounded_r5) (.seq (.reg slaws_FnExactIsBounded_r6) (.seq (.reg slaws_FnExactIsBounded_r7) (.seq (.seq (.reg slaws_FnExactIsBounded_r8) (.cond 8 (.seq (.reg slaws_FnExactIsBounded_r9) (.ret)) (.skip))) (.seq (.seq (.reg slaws_FnExactIsBounded_r10) (.cond 9 (.seq (.reg slaws_FnExactIsBounded_r11) (.ret)) (.skip))) (.seq (.reg slaws_FnExactIsBounded_r12) (.ret))))))))))
def slaws_FnExactIsBounded : SFn := { nslots := 10, nobjs := 20, params := [0], ngiven := 0, bor := false, takes := [], body := slaws_FnExactIsBounded_b, results := [.slot 2] }
def slaws_FnExactIsBounded_t : List Tmp := [0, 1, 2, 3, 4, 5, 6, 11, 21, 26]
attribute [simp] slaws_FnExactIsBounded_r0 slaws_FnExactIsBounded_r1 slaws_FnExactIsBounded_r2 slaws_FnExactIsBounded_r3 slaws_FnExactIsBounded_r4 slaws_FnExactIsBounded_r5 slaws_FnExactIsBounded_r6 slaws_FnExactIsBounded_r7 slaws_FnExactIsBounded_r8 slaws_FnExactIsBounded_r9 slaws_FnExactIsBounded_r10 slaws_FnExactIsBounded_r11 slaws_FnExactIsBounded_r12 slaws_FnExactIsBounded_b slaws_FnExactIsBounded
def simplV_HurtEnds_r0 : Reg :=
  { id := 0, ops := [{ op := .box 0 (.slot 0) },
      { op := .mv (.con (.nil 1)) }], sets := [(1, 0)], clr := [0, 2] }
def simplV_HurtEnds_r1 : Reg :=
  { id := 1, ops := [{ op := .buildSlice 1 1 0 [] },
      { op := .mv (.loc 0) }], sets := [(3, 1)], ghosts := [.ren 1 6] }
def simplV_HurtEnds_r2 : Reg :=
  { id := 2, ops := [{ op := .fieldAddr (.slot 1) 11 },
      { op := .load none (.loc 0) },
      { op := .len false (.loc 1) },
      { op := .mv (.con (.sc (.int .i64 0))) }], sets := [(5, 1), (6, 2), (7, 3)] }
def simplV_HurtEnds_r3 : Reg :=
  { id := 3, ops := [{ op := .bin .lss (.slot 7) (.slot 6) }], sets := [(8, 0)] }
def simplV_HurtEnds_r4 : Reg :=
  { id := 4, fresh := [2], ops := [{ op := .indexAddr 8 (.slot 5) (.slot 7) },
      { op := .load (some 8) (.loc 0) },
      { op := .alloc 2 [.sc (.int .i64 0), .sc (.int .i64 0), .sc (.bool false), .sc (.bool false), .sc (.int .i64 0), .nil 1, .sc (.int .i64 0), .nil 1] },
      { op := .store 8 (.loc 2) (.loc 1) }], sets := [(4, 2)] }
def simplV_HurtEnds_r5 : Reg :=
  { id := 5, ops := [{ op := .load (some 15) (.slot 1) },
      { op := .load (some 8) (.slot 4) },
      { op := .call 196 [(false, .loc 0), (false, .loc 1)] [] }], sets := [(9, 2)] }
def simplV_HurtEnds_r6 : Reg :=
  { id := 6, fresh := [3, 4], ops := [{ op := .mv (.slot 3) },
      { op := .fieldAddr (.slot 4) 0 },
      { op := .load none (.loc 1) },
      { op := .buildSlice 3 1 1 [.loc 2] },
      { op := .append 4 1 8 false (.loc 0) (.loc 3) },
      { op := .mv (.loc 4) }], sets := [(3, 5)], ghosts := [.ren 4 6], clr := [4] }
def simplV_HurtEnds_r7 : Reg :=
  { id := 7, ops := [{ op := .bin .add (.slot 7) (.con (.sc (.int .i64 1))) },
      { op := .mv (.loc 0) }], sets := [(7, 1)] }
def simplV_HurtEnds_r8 : Reg :=
  { id := 8, ops := [{ op := .mv (.slot 3) },
      { op := .call 197 [(true, .loc 0)] [] }], clr := [1, 5, 6, 7] }
def simplV_HurtEnds_r9 : Reg :=
  { id := 9, ops := [{ op := .mv (.slot 3) },
      { op := .call 198 [(true, .loc 0)] [5] },
      { op := .mv (.loc 1) }], sets := [(2, 2)], clr := [3] }
def simplV_HurtEnds_b : SC := .seq (.reg simplV_HurtEnds_r0) (.seq (.reg simplV_HurtEnds_r1) (.seq (.seq (.reg simplV_HurtEnds_r2) (.block 0 (.loop (.seq (.reg simplV_HurtEnds_r3) (.seq (.cond 8 (.skip) (.exit 0)) (.seq (.block 1 (.seq (.reg simplV_HurtEnds_r4) (.seq (.reg simplV_HurtEnds_r5) (.cond 9 (.reg simplV_HurtEnds_r6) (.skip))))) (.reg simplV_HurtEnds_r7))))))) (.seq (.reg simplV_HurtEnds_r8) (.seq (.reg simplV_HurtEnds_r9) (.ret)))))
def simplV_HurtEnds : SFn := { nslots := 10, nobjs := 7, params := [0], ngiven := 0, bor := false, takes := [], body := simplV_HurtEnds_b, results := [.slot 2] }
def simplV_HurtEnds_t : List Tmp := [0, 1, 2, 3, 5, 8, 9, 10, 11, 16]
attribute [simp] simplV_HurtEnds_r0 simplV_HurtEnds_r1 simplV_HurtEnds_r2 simplV_HurtEnds_r3 simplV_HurtEnds_r4 simplV_HurtEnds_r5 simplV_HurtEnds_r6 simplV_HurtEnds_r7 simplV_HurtEnds_r8 simplV_HurtEnds_r9 simplV_HurtEnds_b simplV_HurtEnds
end Go.Eng.T

namespace Go.Eng.T
set_option maxRecDepth 20000
abbrev IndexFuncExtS (D : Dn) (R : Rel) : Prop := ∀ (xs : List Ext) (g : Nat) (caps : List V) (p : Ext → Bool), xs.length ≤ maxLen → CapOk caps → (∀ (j : Nat) (h : j < xs.length), D g (arg (eExt xs[j]) :: caps) [] (B (p xs[j])) []) → R [.sl 1 2 xs.length (xs.flatMap eExt), .fn g caps] [] (I (idxP p xs 0)) []
abbrev ContainsFuncExtS (D : Dn) (R : Rel) : Prop := ∀ (xs : List Ext) (g : Nat) (caps : List V) (p : Ext → Bool), xs.length ≤ maxLen → CapOk caps → (∀ (j : Nat) (h : j < xs.length), D g (arg (eExt xs[j]) :: caps) [] (B (p xs[j])) []) → R [.sl 1 2 xs.length (xs.flatMap eExt), .fn g caps] [] (B (xs.any p)) []
end Go.Eng.T

namespace Go.Eng.T
set_option maxRecDepth 20000

def hasTag (t : Int) (x : Ext) : Bool := decide (x.tag = t)
def extOf (l : List Ext) (t : Int) : Int := idxP (hasTag t) l 0
abbrev ExtOfS (R : Rel) : Prop := ∀ (l : List Ext) (t : Int), l.length ≤ maxLen → R [.sl 1 2 l.length (l.flatMap eExt), I t] [] (I (extOf l t)) []
abbrev ExtOf1S (R : Rel) : Prop := ∀ (x : Ext) (t : Int), R [arg (eExt x), .rptr 1 [I t] 0] [] (B (hasTag t x)) []
def okExt (x : Ext) : Bool := decide (InR x.tag 0 255) && (decide (x.body.length ≤ 4) && allIn x.body 0 255)
def newTag (l : List Ext) (i : Nat) : Bool := match l[i]? with
  | some x => okExt x && !(l.take i).any (hasTag x.tag)
  | none => true
theorem newTag_at {l : List Ext} {i : Nat} (h : i < l.length) : newTag l i = (okExt l[i] && !(l.take i).any (hasTag l[i].tag)) := by
  unfold newTag
  rw [List.getElem?_eq_getElem h]
def areExts (l : List Ext) : Bool := allTo (newTag l) l.length && decide (l.length ≤ 6)
theorem idxP_range {α : Type} {p : α → Bool} : ∀ {xs : List α} {i : Int}, idxP p xs i = -1 ∨ (i ≤ idxP p xs i ∧ idxP p xs i < i + xs.length)
  | [], i => .inl rfl
  | x :: r, i => by
    by_cases hp : p x = true
    · right; simp [idxP, hp]; omega
    · rcases idxP_range (p := p) (xs := r) (i := i + 1) with h | h
      · left; simp [idxP, hp, h]
      · right; simp [idxP, hp] at *; omega
/-- the first place lies before j -/
theorem idxP_lt {α : Type} {p : α → Bool} : ∀ {xs : List α} {i : Int} {j : Nat}, 0 ≤ i → (h : j < xs.length) → p xs[j] = true → (idxP p xs i < i + j ↔ (xs.take j).any p = true)
  | x :: r, i, 0, hi, h, hp => by
    have : p x = true := hp
    simp [idxP, this]
  | x :: r, i, j + 1, hi, h, hp => by
    by_cases hx : p x = true
    · simp [idxP, hx]; omega
    · have := idxP_lt (p := p) (xs := r) (i := i + 1) (j := j) (by omega) (by simpa using h) (by simpa using hp)
      simp only [idxP, hx, List.take_succ_cons, List.any_cons, Bool.false_or]
      rw [← this]
      simp
      omega
theorem extOf_lt {l : List Ext} {j : Nat} (h : j < l.length) : (extOf l l[j].tag < (j : Int)) = ((l.take j).any (hasTag l[j].tag) = true) := by
  have := idxP_lt (p := hasTag l[j].tag) (i := 0) (by omega) h (by simp [hasTag])
  rw [Int.zero_add] at this
  exact propext this
theorem extOf_take {l : List Ext} {j : Nat} {t : Int} : (0 ≤ extOf (l.take j) t) = ((l.take j).any (hasTag t) = true) := idxP_ge (by omega)
theorem areExts_no {l : List Ext} {j : Nat} (h : j < l.length) (hn : newTag l j = false) : areExts l = false := by
  unfold areExts
  rw [allTo_no h hn]; rfl
abbrev AreExtsS (R : Rel) : Prop := ∀ l : List Ext, exB l → R [.sl 1 2 l.length (l.flatMap eExt)] [] (B (areExts l)) []
def tagsOf (l : List Ext) : List Int := l.map (·.tag)
theorem tags_step {l : List Ext} {j : Nat} (h : j < l.length) : tagsOf (l.take (j + 1)) = tagsOf (l.take j) ++ [l[j].tag] := by
  have e : l.take (j + 1) = l.take j ++ [l[j]] := by simp
  unfold tagsOf
  rw [e, List.map_append]; rfl
abbrev TagsOfS (R : Rel) : Prop := ∀ l : List Ext, l.length ≤ 4194304 → R [.sl 1 2 l.length (l.flatMap eExt)] [] (.sl 0 1 (tagsOf l).length (ints (tagsOf l))) []
end Go.Eng.T

namespace Go.Eng.T
set_option maxRecDepth 20000
def kept (p : Int → Bool) (l : List Ext) : List Ext := l.filter fun x => p x.tag
theorem kept_step {p : Int → Bool} {l : List Ext} {j : Nat} (h : j < l.length) : kept p (l.take (j + 1)) = kept p (l.take j) ++ (if p l[j].tag then [l[j]] else []) := filtE_step (p := fun x : Ext => p x.tag) h
theorem kept_all {p : Int → Bool} {l : List Ext} {j : Nat} (h : l.length ≤ j) : kept p (l.take j) = kept p l := filtE_all h
theorem kept_len {p : Int → Bool} {l : List Ext} {j : Nat} : (kept p (l.take j)).length ≤ j := filtE_len
theorem exB_kept {l : List Ext} (h : exB l) (p : Int → Bool) : exB (kept p l) := exB_filter h _
theorem kept_push {p : Int → Bool} {l : List Ext} {j : Nat} (h : j < l.length) (hp : p l[j].tag = true) :
    (kept p (l.take j)).flatMap eExt ++ [.sc (.int .i64 l[j].tag), .sl 0 1 l[j].body.length (ints l[j].body)] = (kept p (l.take (j + 1))).flatMap eExt := by
  rw [kept_step h, if_pos hp, List.flatMap_append]; simp
theorem kept_push_len {p : Int → Bool} {l : List Ext} {j : Nat} (h : j < l.length) (hp : p l[j].tag = true) : (kept p (l.take (j + 1))).length = (kept p (l.take j)).length + 1 := by
  rw [kept_step h, if_pos hp]; simp
theorem kept_skip {p : Int → Bool} {l : List Ext} {j : Nat} (h : j < l.length) (hp : ¬ p l[j].tag = true) : kept p (l.take (j + 1)) = kept p (l.take j) := by
  rw [kept_step h, if_neg hp, List.append_nil]
/-- what is captured holds nothing of the frame -/
def NoObj (caps : List V) : Prop := ∀ k, caps.any (m1 k) = false
theorem noObj_nil : NoObj [] := fun _ => rfl
theorem noObj_rptr {fl : Nat} {cs : List V} {o : Nat} {r : List V} (h : NoObj r) : NoObj (.rptr fl cs o :: r) := fun k => by
  have := h k
  simp only [List.any_cons, this, m1, Bool.or_self]
theorem killV_cap {k g : Nat} {caps : List V} (h : NoObj caps) : killV k (.fn g caps) = .fn g caps := by
  have := h k
  simp only [killV, m3, m2, this]
  rfl
theorem renV_cap {a b g : Nat} {caps : List V} (h : NoObj caps) : renV a b (.fn g caps) = .fn g caps := by
  have := h a
  simp only [renV, m3, m2, this]
  rfl
abbrev keptExtsS (D : Dn) (R : Rel) : Prop := ∀ (l : List Ext) (g : Nat) (caps : List V) (p : Int → Bool), exB l → CapOk caps → NoObj caps → (∀ t : Int, D g (I t :: caps) [] (B (p t)) []) →
  R [.sl 1 2 l.length (l.flatMap eExt), .fn g caps] [] (.sl 0 2 (kept p l).length ((kept p l).flatMap eExt)) []
abbrev KeepAllS (R : Rel) : Prop := ∀ t : Int, R [I t] [] (B true) []
abbrev KeepUnresS (R : Rel) : Prop := ∀ t : Int, R [I t] [] (B (!isReserved t)) []
theorem kept_true (l : List Ext) : kept (fun _ => true) l = l := by simp [kept]
abbrev cpExtsS (R : Rel) : Prop := ∀ l : List Ext, exB l → R [.sl 1 2 l.length (l.flatMap eExt)] [] (.sl 0 2 l.length (l.flatMap eExt)) []
def stripG (l : List Ext) : List Ext := kept (fun t => !isReserved t) l
def knownOf (l : List Ext) (tags : List Int) : List Ext := kept (fun t => decide (t ∈ tags)) l
abbrev StripGreaseS (R : Rel) : Prop := ∀ l : List Ext, exB l → R [.sl 1 2 l.length (l.flatMap eExt)] [] (.sl 0 2 (stripG l).length ((stripG l).flatMap eExt)) []
abbrev KnownOfS (R : Rel) : Prop := ∀ (l : List Ext) (tags : List Int), exB l → tags.length ≤ maxLen → R [.sl 1 2 l.length (l.flatMap eExt), .sl 1 1 tags.length (ints tags)] [] (.sl 0 2 (knownOf l tags).length ((knownOf l tags).flatMap eExt)) []
abbrev KnownOf1S (R : Rel) : Prop := ∀ (t : Int) (tags : List Int), tags.length ≤ maxLen → R [I t, .rptr 1 [.sl 0 1 tags.length (ints tags)] 0] [] (B (decide (t ∈ tags))) []
theorem capOk_ints {a : List Int} {r : List V} (h : CapOk r) : CapOk (.rptr 1 [.sl 0 1 a.length (ints a)] 0 :: r) := capOk_cons (fun H => by simp) (fun H => by simp) h
theorem known_self (l : List Ext) : knownOf l (tagsOf l) = l := by
  unfold knownOf kept
  rw [List.filter_eq_self]
  intro x hx
  simp only [decide_eq_true_eq]
  exact List.mem_map.2 ⟨x, hx, rfl⟩
theorem tags_len (l : List Ext) : (tagsOf l).length = l.length := by simp [tagsOf]
end Go.Eng.T

namespace Go.Eng.T
set_option maxRecDepth 20000
abbrev InV (a b c : Int) : Prop := b ≤ a ∧ a ≤ c
/-- numbers that rise, each from 1 to 9 -/
def risesV (xs : List Int) (j : Nat) : Bool := (List.range j).all fun i => decide (InV (xs.getD i 0) 1 9) && (decide (i = 0) || decide (xs.getD (i - 1) 0 < xs.getD i 0))
theorem risesV_step (xs : List Int) (j : Nat) : risesV xs (j + 1) = (risesV xs j && (decide (InV (xs.getD j 0) 1 9) && (decide (j = 0) || decide (xs.getD (j - 1) 0 < xs.getD j 0)))) := by
  unfold risesV
  rw [List.range_succ, List.all_append]
  simp
theorem risesV_no {xs : List Int} {j : Nat} (h : j < xs.length) (hn : risesV xs (j + 1) = false) : risesV xs xs.length = false := by
  have : ∀ n, risesV xs (j + 1 + n) = false := by
    intro n
    induction n with
    | zero => exact hn
    | succ n ih => rw [show j + 1 + (n + 1) = (j + 1 + n) + 1 by omega, risesV_step, ih]; rfl
  have := this (xs.length - (j + 1))
  rwa [show j + 1 + (xs.length - (j + 1)) = xs.length by omega] at this
theorem getDV {xs : List Int} {j : Nat} (h : j < xs.length) : xs.getD j 0 = xs[j] := by simp [h]
def areVers (xs : List Int) : Bool := risesV xs xs.length && decide (0 < xs.length)
abbrev AreVersionsS (R : Rel) : Prop := ∀ xs : List Int, xs.length ≤ maxLen → R [.sl 1 1 xs.length (ints xs)] [] (B (areVers xs)) []
theorem filt_step {p : Int → Bool} {xs : List Int} {j : Nat} (h : j < xs.length) : (xs.take (j + 1)).filter p = (xs.take j).filter p ++ (if p xs[j] then [xs[j]] else []) := by
  have e : xs.take (j + 1) = xs.take j ++ [xs[j]] := by simp
  rw [e, List.filter_append]
  by_cases hp : p xs[j] = true <;> simp [hp]
theorem filt_all {p : Int → Bool} {xs : List Int} {j : Nat} (h : xs.length ≤ j) : (xs.take j).filter p = xs.filter p := by rw [List.take_of_length_le h]
theorem filt_len {p : Int → Bool} {xs : List Int} {j : Nat} : ((xs.take j).filter p).length ≤ j := by
  have := List.length_filter_le p (xs.take j)
  have h2 : (xs.take j).length ≤ j := by simp; omega
  omega
def common (a b : List Int) : List Int := a.filter fun v => decide (v ∈ b)
def withoutV (a : List Int) (v : Int) : List Int := a.filter fun x => !decide (x = v)
abbrev CommonOfS (R : Rel) : Prop := ∀ a b : List Int, a.length ≤ 4194304 → b.length ≤ maxLen → R [.sl 1 1 a.length (ints a), .sl 1 1 b.length (ints b)] [] (.sl 0 1 (common a b).length (ints (common a b))) []
abbrev l12WithoutS (R : Rel) : Prop := ∀ (a : List Int) (v : Int), a.length ≤ 4194304 → R [.sl 1 1 a.length (ints a), I v] [] (.sl 0 1 (withoutV a v).length (ints (withoutV a v))) []
abbrev withoutS (R : Rel) : Prop := ∀ (a : List Int) (v : Int), a.length ≤ 4194304 → R [.sl 1 1 a.length (ints a), .sl 1 1 1 (ints [v])] [] (.sl 0 1 (withoutV a v).length (ints (withoutV a v))) []
end Go.Eng.T

namespace Go.Eng.T
set_option maxRecDepth 20000
def hB (h : Hello) : Prop := h.versions.length ≤ 4194304 ∧ exB h.exts
def isHello (h : Hello) : Bool := areVers h.versions && areExts h.exts
abbrev IsHelloS (R : Rel) : Prop := ∀ h : Hello, hB h → R [arg (eHello h)] [] (B (isHello h)) []
abbrev cpHelloS (R : Rel) : Prop := ∀ h : Hello, hB h → R [arg (eHello h)] [] (.agg (eHello h)) []
def lossy (b : Box) (x : Ext) : Bool := decide (x.tag ∈ b.drops) || (b.lists && (!decide (x.tag ∈ b.strips) && !decide (InR x.tag 1 3)))
def topV (vs : List Int) : Int := vs.getLastD 0
def losesB (b : Box) (h : Hello) : Bool := (decide (0 < b.limit) && decide (b.limit < topV h.versions)) || h.exts.any (lossy b)
def stays (b : Box) (t : Int) : Bool := !decide (t ∈ b.strips)
def noHello : Hello := ⟨[], []⟩
def passBox (b : Box) (h : Hello) : Hello × Bool := if isBox b && (isHello h && !losesB b h) then (⟨h.versions, kept (stays b) h.exts⟩, true) else (noHello, false)
abbrev PassBoxS (R : Rel) : Prop := ∀ (b : Box) (h : Hello), lnBox b → hB h → R [arg (eBox b), arg (eHello h)] [] (.tup [.agg (eHello (passBox b h).1), B (passBox b h).2]) []
theorem vers_pos {xs : List Int} (h : areVers xs = true) : 0 < xs.length := by
  unfold areVers at h
  simp only [Bool.and_eq_true, decide_eq_true_eq] at h
  exact h.2
theorem topV_at {xs : List Int} (h : xs.length - 1 < xs.length) : topV xs = xs[xs.length - 1] := by
  unfold topV
  rw [List.getLastD_eq_getLast?, List.getLast?_eq_getElem?, List.getElem?_eq_getElem h]; rfl
abbrev PassBox1S (R : Rel) : Prop := ∀ (t : Int) (b : Box), lnBox b → R [I t, .rptr 1 (eBox b) 0] [] (B (stays b t)) []
abbrev loses1S (R : Rel) : Prop := ∀ (x : Ext) (b : Box), lnBox b → R [arg (eExt x), .rptr 1 (eBox b) 0] [] (B (lossy b x)) []
def maxL (xs : List Int) : Int := xs.foldl max (xs.headD 0)
abbrev MaxS (R : Rel) : Prop := ∀ xs : List Int, 0 < xs.length → xs.length ≤ 4194304 → R [.sl 1 1 xs.length (ints xs)] [] (I (maxL xs)) []
abbrev CloneS (R : Rel) : Prop := ∀ xs : List Int, xs.length ≤ 4194304 → R [.sl 1 1 xs.length (ints xs)] [] (.sl 0 1 xs.length (ints xs)) []
abbrev losesS (R : Rel) : Prop := ∀ (b : Box) (h : Hello), lnBox b → hB h → isBox b = true → areVers h.versions = true → R [arg (eBox b), arg (eHello h)] [] (B (losesB b h)) []
theorem foldmax_last : ∀ (xs : List Int) (a : Int), (∀ x, x ∈ xs → a ≤ x) → (∀ i, (h : i + 1 < xs.length) → xs[i] ≤ xs[i + 1]) → xs.foldl max a = (xs.getLast?.getD a)
  | [], a, _, _ => rfl
  | x :: r, a, h1, h2 => by
    have hx := h1 x (by simp)
    have hr : ∀ y, y ∈ r → x ≤ y := by
      intro y hy
      obtain ⟨n, hn, rfl⟩ := List.getElem_of_mem hy
      have key : ∀ m, (hm : m < r.length) → x ≤ r[m] := by
        intro m
        induction m with
        | zero => intro hm; have := h2 0 (by simp; omega); simpa using this
        | succ m ih =>
          intro hm
          have h3 := ih (by omega)
          have := h2 (m + 1) (by simp; omega)
          simp only [List.getElem_cons_succ] at this
          omega
      exact key n hn
    have ih := foldmax_last r x hr (fun i h => by have := h2 (i + 1) (by simp; omega); simpa using this)
    simp only [List.foldl_cons]
    rw [show max a x = x by omega, ih]
    cases r with
    | nil => rfl
    | cons y s => simp [List.getLast?_cons_cons, List.getLast?_cons]
theorem vers_up {xs : List Int} (h : areVers xs = true) {i : Nat} (hi : i + 1 < xs.length) : xs[i] < xs[i + 1] := by
  unfold areVers risesV at h
  simp only [Bool.and_eq_true, List.all_eq_true, List.mem_range] at h
  have := (h.1 (i + 1) hi).2
  rw [getDV hi, show i + 1 - 1 = i by omega, getDV (by omega)] at this
  simpa using this
theorem vers_at {xs : List Int} (h : areVers xs = true) {i : Nat} (hi : i < xs.length) : InV xs[i] 1 9 := by
  unfold areVers risesV at h
  simp only [Bool.and_eq_true, List.all_eq_true, List.mem_range] at h
  have := (h.1 i hi).1
  rw [getDV hi] at this
  simpa using this
theorem maxL_vers {xs : List Int} (h : areVers xs = true) : maxL xs = topV xs := by
  cases xs with
  | nil => rfl
  | cons x r =>
    unfold maxL topV
    simp only [List.headD_cons, List.foldl_cons]
    rw [show max x x = x by omega, foldmax_last r x ?_ ?_]
    · cases r with
      | nil => rfl
      | cons y s => simp [List.getLastD_eq_getLast?, List.getLast?_cons_cons, List.getLast?_cons]
    · intro y hy
      obtain ⟨n, hn, rfl⟩ := List.getElem_of_mem hy
      induction n with
      | zero => have := vers_up h (i := 0) (by simp; omega); simp at this; omega
      | succ m ih =>
        have h3 := ih (by omega) (List.getElem_mem _)
        have := vers_up h (i := m + 1) (by simp; omega)
        simp only [List.getElem_cons_succ] at this
        omega
    · intro i hi
      have := vers_up h (i := i + 1) (by simp; omega)
      simp only [List.getElem_cons_succ] at this
      omega
theorem capOk_box {b : Box} {r : List V} (h : CapOk r) : CapOk (.rptr 1 (eBox b) 0 :: r) := capOk_cons (fun H => by simp) (fun H => by simp) h
end Go.Eng.T

namespace Go.Eng.T
set_option maxRecDepth 20000
def passGo : List Box → Hello → Hello × Bool
  | [], h => (h, true)
  | b :: r, h => if (passBox b h).2 = true then passGo r (passBox b h).1 else (noHello, false)
theorem passGo_drop {path : List Box} {j : Nat} {x : Hello} (h : j < path.length) : passGo (path.drop j) x = if (passBox path[j] x).2 = true then passGo (path.drop (j + 1)) (passBox path[j] x).1 else (noHello, false) := by
  rw [List.drop_eq_getElem_cons h]; rfl
theorem passGo_end {path : List Box} {j : Nat} {x : Hello} (h : path.length ≤ j) : passGo (path.drop j) x = (x, true) := by rw [List.drop_eq_nil_of_le h]; rfl
def passPath (path : List Box) (h : Hello) : Hello × Bool := if decide (path.length ≤ 4) && isHello h then passGo path h else (noHello, false)
theorem hB_no : hB noHello := ⟨by simp [noHello], exB_nil⟩
theorem hB_pass {b : Box} {h : Hello} (hh : hB h) : hB (passBox b h).1 := by
  unfold passBox
  split
  · exact ⟨hh.1, exB_kept hh.2 _⟩
  · exact hB_no
theorem passBox_no {b : Box} {h : Hello} (hk : (passBox b h).2 = false) : (passBox b h).1 = noHello := by
  unfold passBox at *
  split at hk
  · cases hk
  · rename_i hc; rw [if_neg hc]
abbrev PassPathS (R : Rel) : Prop := ∀ (path : List Box) (h : Hello), lnS lnBox path → hB h → R [.sl 1 4 path.length (path.flatMap eBox), arg (eHello h)] [] (.tup [.agg (eHello (passPath path h).1), B (passPath path h).2]) []
def isClear (b : Box) : Bool := decide (b.limit = 0) && (decide (b.drops.length = 0) && (decide (b.strips.length = 0) && !b.lists))
abbrev IsClearS (R : Rel) : Prop := ∀ b : Box, lnBox b → R [arg (eBox b)] [] (B (isClear b)) []
theorem clear_box {b : Box} (h : isClear b = true) : isBox b = true := by
  unfold isClear at h
  simp only [Bool.and_eq_true, decide_eq_true_eq] at h
  obtain ⟨h1, h2, h3, _⟩ := h
  have h2' := List.eq_nil_of_length_eq_zero h2
  have h3' := List.eq_nil_of_length_eq_zero h3
  simp [isBox, h1, h2', h3', allIn]
def isClearPath (path : List Box) : Bool := decide (path.length ≤ 4) && path.all isClear
abbrev IsClearPathS (R : Rel) : Prop := ∀ path : List Box, lnS lnBox path → R [.sl 1 4 path.length (path.flatMap eBox)] [] (B (isClearPath path)) []
theorem all_here {α : Type} {p : α → Bool} {xs : List α} {j : Nat} (h : j < xs.length) (hp : p xs[j] = false) : xs.all p = false := List.all_eq_false.2 ⟨_, List.getElem_mem h, by simp [hp]⟩
theorem all_step {α : Type} {p : α → Bool} {xs : List α} {j : Nat} (h : j < xs.length) : (xs.take (j + 1)).all p = ((xs.take j).all p && p xs[j]) := by
  have e : xs.take (j + 1) = xs.take j ++ [xs[j]] := by simp
  rw [e, List.all_append]; simp
theorem all_all {α : Type} {p : α → Bool} {xs : List α} {j : Nat} (h : xs.length ≤ j) : (xs.take j).all p = xs.all p := by rw [List.take_of_length_le h]
abbrev IsClearPath1S (R : Rel) : Prop := ∀ b : Box, lnBox b → R [arg (eBox b)] [] (B (!isClear b)) []
abbrev PlainHelloS (R : Rel) : Prop := ∀ xs : List Int, xs.length ≤ 4194304 → R [.sl 1 1 xs.length (ints xs)] [] (.agg (eHello ⟨xs, []⟩)) []
def isOpen (path : List Box) (vs : List Int) : Bool := areVers vs && (passPath path ⟨vs.take 1, []⟩).2
abbrev IsOpenPathS (R : Rel) : Prop := ∀ (path : List Box) (vs : List Int), lnS lnBox path → vs.length ≤ 4194304 → R [.sl 1 4 path.length (path.flatMap eBox), .sl 1 1 vs.length (ints vs)] [] (B (isOpen path vs)) []
def lostV (path : List Box) (v : Int) : Bool := !(passPath path ⟨[v], []⟩).2
def lostVersions (path : List Box) (vs : List Int) : List Int := if areVers vs = true then vs.filter (lostV path) else []
abbrev LostVersionsS (R : Rel) : Prop := ∀ (path : List Box) (vs : List Int), lnS lnBox path → vs.length ≤ 4194304 → R [.sl 1 4 path.length (path.flatMap eBox), .sl 1 1 vs.length (ints vs)] [] (.sl 0 1 (lostVersions path vs).length (ints (lostVersions path vs))) []
theorem isOpen_one (path : List Box) (v : Int) : isOpen path [v] = !lostV path v := by
  unfold isOpen lostV
  by_cases h : areVers [v] = true
  · simp [h]
  · have : passPath path ⟨[v], []⟩ = (noHello, false) := by
      unfold passPath isHello
      have h' : areVers [v] = false := by simpa using h
      simp [h']
    simp [h, this]
end Go.Eng.T

namespace Go.Eng.T
set_option maxRecDepth 20000
set_option maxHeartbeats 1000000

def maxF (l : List Int) : Int := l.foldl (fun a v => if v > a then v else a) 0
theorem maxF_lt {x : Int} : ∀ (l : List Int) (a : Int), (∀ y, y ∈ l → y < x) → a < x → l.foldl (fun a v => if v > a then v else a) a < x
  | [], a, _, h => h
  | y :: l, a, hl, h => by
    simp only [List.foldl_cons]
    refine maxF_lt l _ (fun z hz => hl z (by simp [hz])) ?_
    split
    · exact hl y (by simp)
    · exact h
theorem rises_lt {xs : List Int} : ∀ (n : Nat), risesV xs n = true → ∀ i j, i < j → j < n → xs.getD i 0 < xs.getD j 0
  | 0, _, i, j, _, h => by omega
  | n + 1, hr, i, j, hij, hj => by
    rw [risesV_step] at hr
    simp only [Bool.and_eq_true, Bool.or_eq_true, decide_eq_true_eq] at hr
    obtain ⟨h1, _, h3⟩ := hr
    by_cases hjn : j < n
    · exact rises_lt n h1 i j hij hjn
    · obtain rfl : j = n := by omega
      have h4 : xs.getD (j - 1) 0 < xs.getD j 0 := by
        rcases h3 with h3 | h3
        · omega
        · exact h3
      by_cases he : i = j - 1
      · rw [he]; exact h4
      · have := rises_lt j h1 i (j - 1) (by omega) (by omega)
        omega
theorem rises_in {xs : List Int} {n i : Nat} (h : risesV xs n = true) (hi : i < n) : InV (xs.getD i 0) 1 9 := by
  unfold risesV at h
  have := List.all_eq_true.1 h i (List.mem_range.2 hi)
  simp at this
  exact ⟨this.1.1, this.1.2⟩
theorem vers_pair {xs : List Int} (h : areVers xs = true) : xs.Pairwise (· < ·) := by
  unfold areVers at h
  simp only [Bool.and_eq_true, decide_eq_true_eq] at h
  rw [List.pairwise_iff_getElem]
  intro i j hi hj hij
  have := rises_lt _ h.1 i j hij hj
  rwa [getDV hi, getDV hj] at this
theorem vers_in {xs : List Int} (h : areVers xs = true) : ∀ x, x ∈ xs → InV x 1 9 := by
  unfold areVers at h
  simp only [Bool.and_eq_true, decide_eq_true_eq] at h
  intro x hx
  obtain ⟨i, hi, rfl⟩ := List.getElem_of_mem hx
  have := rises_in h.1 hi
  rwa [getDV hi] at this
theorem maxF_last {l : List Int} (hp : l.Pairwise (· < ·)) (h0 : ∀ x, x ∈ l → 0 < x) (hn : 0 < l.length) : maxF l = l[l.length - 1] := by
  obtain ⟨l', x, rfl⟩ : ∃ l' x, l = l' ++ [x] := by
    rcases List.eq_nil_or_concat l with h | ⟨l', x, h⟩
    · rw [h] at hn; simp at hn
    · exact ⟨l', x, by simpa using h⟩
  rw [List.pairwise_append] at hp
  have h1 : maxF l' < x := maxF_lt l' 0 (fun y hy => hp.2.2 y hy x (by simp)) (h0 x (by simp))
  have h2 : maxF (l' ++ [x]) = if x > maxF l' then x else maxF l' := by unfold maxF; rw [List.foldl_append]; rfl
  rw [h2, if_pos h1]
  simp
def bestCommon (a b : List Int) : Int := if areVers a = true ∧ areVers b = true then maxF (common a b) else 0
abbrev BestCommonS (R : Rel) : Prop := ∀ a b : List Int, a.length ≤ 4194304 → b.length ≤ 4194304 → R [.sl 1 1 a.length (ints a), .sl 1 1 b.length (ints b)] [] (I (bestCommon a b)) []
theorem ml {n : Nat} (h : n ≤ 4194304) : n ≤ maxLen := by unfold maxLen; omega
end Go.Eng.T

namespace Go.Eng.T
set_option maxRecDepth 20000

/-- the places, from i on, at which p holds -/
def idxL {α : Type} (p : α → Bool) : List α → Nat → List Int
  | [], _ => []
  | x :: r, i => if p x then (i : Int) :: idxL p r (i + 1) else idxL p r (i + 1)
theorem idxL_append {α : Type} {p : α → Bool} (b : List α) : ∀ (a : List α) (i : Nat), idxL p (a ++ b) i = idxL p a i ++ idxL p b (i + a.length)
  | [], i => by simp [idxL]
  | x :: r, i => by
    have := idxL_append (p := p) b r (i + 1)
    simp only [List.cons_append, idxL, this, List.length_cons]
    rw [show i + 1 + r.length = i + (r.length + 1) by omega]
    by_cases h : p x = true <;> simp [h]
theorem idxL_step {α : Type} {p : α → Bool} {xs : List α} {j : Nat} (h : j < xs.length) : idxL p (xs.take (j + 1)) 0 = idxL p (xs.take j) 0 ++ (if p xs[j] then [(j : Int)] else []) := by
  have e : xs.take (j + 1) = xs.take j ++ [xs[j]] := by simp
  rw [e, idxL_append]
  have hl : (xs.take j).length = j := by simp; omega
  by_cases hp : p xs[j] = true <;> simp [idxL, hp, hl]
theorem idxL_all {α : Type} {p : α → Bool} {xs : List α} {j : Nat} (h : xs.length ≤ j) : idxL p (xs.take j) 0 = idxL p xs 0 := by rw [List.take_of_length_le h]
theorem idxL_len {α : Type} {p : α → Bool} : ∀ (xs : List α) (i : Nat), (idxL p xs i).length ≤ xs.length
  | [], _ => by simp [idxL]
  | x :: r, i => by
    have := idxL_len (p := p) r (i + 1)
    by_cases h : p x = true
    · simp [idxL, h]; omega
    · simp [idxL, h]; omega

def hasE (v : Int) (e : Endpoint) : Bool := decide (v ∈ e.versions)
theorem world_vers {w : World} (h : szWorld w ≤ 4194304) {j : Nat} (hj : j < w.ends.length) : w.ends[j].versions.length ≤ maxLen := by
  have := size_at (f := szEndpoint) hj
  have e : szEndpoint w.ends[j] = w.ends[j].versions.length + w.ends[j].tags.length + sumF szBox w.ends[j].path := rfl
  unfold szWorld at h
  unfold maxLen; omega
abbrev HasVersionS (R : Rel) : Prop := ∀ (w : World) (v : Int), szWorld w ≤ 4194304 → R [arg (eWorld w), I v] [] (.sl 0 1 (idxL (hasE v) w.ends 0).length (ints (idxL (hasE v) w.ends 0))) []
end Go.Eng.T

namespace Go.Eng.T
set_option maxRecDepth 20000
set_option maxHeartbeats 1000000

def rowsV (xs : List (List Int)) : List V := xs.map fun l => .sl 0 1 l.length (ints l)
@[simp high] theorem rowsV_len (xs : List (List Int)) : (rowsV xs).length = xs.length := by simp [rowsV]
@[simp] theorem rowsV_nil : rowsV [] = [] := rfl
@[simp] theorem rowsV_ro (xs : List (List Int)) : (rowsV xs).map (roCell 0) = rowsV xs := by simp [rowsV, Function.comp_def, roCell]
@[simp high] theorem rowsV_at {xs : List (List Int)} {j : Nat} (h : j < xs.length) : (rowsV xs)[j]? = some (V.sl 0 1 xs[j].length (ints xs[j])) := by simp [rowsV, h]
theorem rowsV_push (xs : List (List Int)) (l : List Int) {n : Nat} (h : n = l.length) : rowsV xs ++ [.sl 0 1 n (ints l)] = rowsV (xs ++ [l]) := by subst h; simp [rowsV]
def szRows (xs : List (List Int)) : Nat := sumF List.length xs
theorem rows_at {xs : List (List Int)} {j : Nat} (h : j < xs.length) : xs[j].length ≤ szRows xs := size_at (f := List.length) h
theorem rows_len {xs : List (List Int)} : xs.length ≤ szRows xs := size_len

def listsOf (w : World) : List (List Int) := w.ends.map (·.versions)
abbrev ListsOfS (R : Rel) : Prop := ∀ w : World, szWorld w ≤ 4194304 → R [arg (eWorld w)] [] (.sl 0 1 (listsOf w).length (rowsV (listsOf w))) []
theorem lists_step {xs : List Endpoint} {j : Nat} (h : j < xs.length) : rowsV ((xs.map (·.versions)).take j) ++ [.sl 0 1 xs[j].versions.length (ints xs[j].versions)] = rowsV ((xs.map (·.versions)).take (j + 1)) := by
  have h' : j < (xs.map (·.versions)).length := by simpa using h
  have e : (xs.map (·.versions)).take (j + 1) = (xs.map (·.versions)).take j ++ [xs[j].versions] := by
    have := List.take_append_getElem h'
    rw [← this]; simp
  rw [e, rowsV_push _ _ rfl]
abbrev rowsA (ls : List (List Int)) : V := .sl 1 1 ls.length (rowsV ls)
def useB (s : List Int) (v : Int) (l : List Int) : Bool := decide (bestCommon s l = v)
def useOf (s : List Int) (ls : List (List Int)) (v : Int) : Nat := if 1 ≤ v then cntF (useB s v) ls else 0
abbrev UseOfS (R : Rel) : Prop := ∀ (s : List Int) (ls : List (List Int)) (v : Int), s.length ≤ 4194304 → szRows ls ≤ 4194304 → R [.sl 1 1 s.length (ints s), rowsA ls, I v] [] (I (useOf s ls v)) []
def strB (s : List Int) (v : Int) (l : List Int) : Bool := decide (0 < bestCommon s l) && decide (bestCommon (withoutV s v) l = 0)
def stranded (s : List Int) (ls : List (List Int)) (v : Int) : List Int := idxL (strB s v) ls 0
abbrev StrandedS (R : Rel) : Prop := ∀ (s : List Int) (ls : List (List Int)) (v : Int), s.length ≤ 4194304 → szRows ls ≤ 4194304 → R [.sl 1 1 s.length (ints s), rowsA ls, I v] [] (.sl 0 1 (stranded s ls v).length (ints (stranded s ls v))) []
theorem useOf_le (s : List Int) (ls : List (List Int)) (v : Int) : useOf s ls v ≤ ls.length := by
  unfold useOf
  split
  · have := cnt_le (f := useB s v) (xs := ls) (j := ls.length) (by omega)
    rwa [List.take_length] at this
  · omega
def mayRetire (s : List Int) (ls : List (List Int)) (v pm : Int) : Bool := areVers s && (decide (v ∈ s) && (!decide (s.length = 1) && (decide (InV pm 0 1000) && (decide (stranded s ls v = []) && decide (1000 * (useOf s ls v : Int) ≤ pm * (ls.length : Int))))))
abbrev MayRetireS (R : Rel) : Prop := ∀ (s : List Int) (ls : List (List Int)) (v pm : Int), s.length ≤ 4194304 → szRows ls ≤ 4194304 → R [.sl 1 1 s.length (ints s), rowsA ls, I v, I pm] [] (B (mayRetire s ls v pm)) []
def retire (s : List Int) (ls : List (List Int)) (v pm : Int) : List Int × Bool := if mayRetire s ls v pm = true then (withoutV s v, true) else (s, false)
abbrev RetireVersionS (R : Rel) : Prop := ∀ (s : List Int) (ls : List (List Int)) (v pm : Int), s.length ≤ 4194304 → szRows ls ≤ 4194304 → R [.sl 1 1 s.length (ints s), rowsA ls, I v, I pm] [] (.tup [.sl 0 1 (retire s ls v pm).1.length (ints (retire s ls v pm).1), B (retire s ls v pm).2]) []
theorem world_serv' {w : World} (h : szWorld w ≤ 4194304) : w.server.length ≤ 4194304 := by unfold szWorld at h; omega
theorem listsF (xs : List Endpoint) : szRows (xs.map (·.versions)) ≤ sumF szEndpoint xs := by
  induction xs with
  | nil => simp [szRows, sumF]
  | cons x r ih =>
    simp only [szRows, sumF, List.map_cons, List.sum_cons, List.length_cons, szEndpoint, List.length_map] at *
    omega
theorem lists_sz {w : World} (h : szWorld w ≤ 4194304) : szRows (listsOf w) ≤ 4194304 := by
  have := listsF w.ends
  unfold szWorld at h
  unfold listsOf
  omega
def stepRetire (w : World) (v pm : Int) : World × Bool := if (retire w.server (listsOf w) v pm).2 = true ∧ ¬ v = w.rollout.version then ({ w with server := (retire w.server (listsOf w) v pm).1 }, true) else (w, false)
abbrev StepRetireS (R : Rel) : Prop := ∀ (w : World) (v pm : Int), szWorld w ≤ 4194304 → R [arg (eWorld w), I v, I pm] [] (.tup [.agg (eWorld (stepRetire w v pm).1), B (stepRetire w v pm).2]) []
end Go.Eng.T

namespace Go.Eng.T
set_option maxRecDepth 20000
set_option maxHeartbeats 1000000
def leftOf (a b : List Int) : List Int := a.filter fun v => !decide (v ∈ b)
abbrev LeftS (R : Rel) : Prop := ∀ a b : List Int, a.length ≤ 4194304 → b.length ≤ 4194304 → R [.sl 1 1 a.length (ints a), .sl 1 1 b.length (ints b)] [] (.sl 0 1 (leftOf a b).length (ints (leftOf a b))) []
/-- numbers that rise -/
def upTo (xs : List Int) (i : Nat) : Bool := decide (i = 0) || decide (xs.getD (i - 1) 0 < xs.getD i 0)
def areTags (xs : List Int) : Bool := allTo (upTo xs) xs.length && allIn xs 0 255
abbrev AreTagsS (R : Rel) : Prop := ∀ xs : List Int, xs.length ≤ maxLen → R [.sl 1 1 xs.length (ints xs)] [] (B (areTags xs)) []
theorem areTags_no1 {xs : List Int} {j : Nat} (h : j < xs.length) (hn : ¬ InR xs[j] 0 255) : areTags xs = false := by unfold areTags; rw [allIn_no h hn]; simp
theorem areTags_no2 {xs : List Int} {j : Nat} (h : j < xs.length) (hn : upTo xs j = false) : areTags xs = false := by unfold areTags; rw [allTo_no h hn]; simp
theorem upTo_zero (xs : List Int) : upTo xs 0 = true := by simp [upTo]
theorem upTo_at {xs : List Int} {j : Nat} (h0 : ¬ j = 0) (h : j < xs.length) (h' : j - 1 < xs.length) : upTo xs j = decide (xs[j - 1] < xs[j]) := by
  unfold upTo
  rw [getDV h, getDV h']
  simp [h0]
def isEndpoint (e : Endpoint) : Bool := areVers e.versions && (decide (e.tags.length ≤ 5) && (areTags e.tags && (!e.tags.any isReserved && (decide (e.path.length ≤ 4) && (e.path.all isBox && decide (InR e.cls 0 5))))))
abbrev IsEndpointS (R : Rel) : Prop := ∀ e : Endpoint, lnEndpoint e → R [arg (eEndpoint e)] [] (B (isEndpoint e)) []
abbrev IsEndpoint1S (R : Rel) : Prop := ∀ b : Box, lnBox b → R [arg (eBox b)] [] (B (!isBox b)) []
theorem any_not {α : Type} (p : α → Bool) (xs : List α) : (xs.any fun x => !p x) = !xs.all p := by rw [List.all_eq_not_any_not]; simp
theorem ln_box {b : Box} (h : szBox b ≤ 4194304) : lnBox b := by
  unfold szBox at h
  exact ⟨by unfold lnInts maxLen; omega, by unfold lnInts maxLen; omega⟩
theorem ln_path {p : List Box} (h : sumF szBox p ≤ 4194304) : lnS lnBox p :=
  ⟨by have := size_len (f := szBox) (xs := p); unfold maxLen; omega, fun j hj => ln_box (by have := size_at (f := szBox) hj; omega)⟩
theorem ln_end {e : Endpoint} (h : szEndpoint e ≤ 4194304) : lnEndpoint e := by
  unfold szEndpoint at h
  exact ⟨by unfold lnInts maxLen; omega, by unfold lnInts maxLen; omega, ln_path (by omega)⟩
theorem world_end {w : World} (h : szWorld w ≤ 4194304) {n : Nat} (hn : n < w.ends.length) : szEndpoint w.ends[n] ≤ 4194304 := by
  have := size_at (f := szEndpoint) hn
  have := (world_szs h).2.2.1
  omega
theorem endp_vers {e : Endpoint} (h : szEndpoint e ≤ 4194304) : e.versions.length ≤ 4194304 := by unfold szEndpoint at h; omega
def bestFor (e : Endpoint) (s : List Int) : Int := if isEndpoint e = true then bestCommon s (leftOf e.versions (lostVersions e.path e.versions)) else 0
abbrev BestForS (R : Rel) : Prop := ∀ (e : Endpoint) (s : List Int), szEndpoint e ≤ 4194304 → s.length ≤ 4194304 → R [arg (eEndpoint e), .sl 1 1 s.length (ints s)] [] (I (bestFor e s)) []
theorem lost_len (path : List Box) (vs : List Int) : (lostVersions path vs).length ≤ vs.length := by
  unfold lostVersions
  split
  · exact List.length_filter_le _ _
  · simp
theorem left_len (a b : List Int) : (leftOf a b).length ≤ a.length := List.length_filter_le _ _
def bestNow (w : World) (i : Int) : Int := if InQ i 0 ((w.ends.length : Int) - 1) then (match w.ends[i.toNat]? with | some e => bestFor e w.server | none => 0) else 0
abbrev BestNowS (R : Rel) : Prop := ∀ (w : World) (i : Int), szWorld w ≤ 4194304 → R [arg (eWorld w), I i] [] (I (bestNow w i)) []
end Go.Eng.T

namespace Go.Eng.T
set_option maxRecDepth 20000
set_option maxHeartbeats 1000000
/-- how many stand before the first that is not less -/
def posV : List Int → Int → Nat
  | [], _ => 0
  | x :: r, v => if x < v then posV r v + 1 else 0
theorem posV_le : ∀ (l : List Int) (v : Int), posV l v ≤ l.length
  | [], _ => Nat.le_refl 0
  | x :: r, v => by
    have := posV_le r v
    simp only [posV, List.length_cons]
    split <;> omega
theorem posV_step {l : List Int} {v : Int} {j : Nat} (h : j < l.length) (hv : l[j] < v) : posV (l.drop j) v = posV (l.drop (j + 1)) v + 1 := by
  rw [List.drop_eq_getElem_cons h]
  simp only [posV, if_pos hv]
theorem posV_stop {l : List Int} {v : Int} {j : Nat} (h : j < l.length) (hv : ¬ l[j] < v) : posV (l.drop j) v = 0 := by
  rw [List.drop_eq_getElem_cons h]
  simp only [posV, if_neg hv]
theorem posV_end {l : List Int} {v : Int} {j : Nat} (h : l.length ≤ j) : posV (l.drop j) v = 0 := by rw [List.drop_eq_nil_of_le h]; rfl
def insV (l : List Int) (i : Nat) (v : Int) : List Int := l.take i ++ v :: l.drop i
theorem insV_len {l : List Int} {i : Nat} {v : Int} (h : i ≤ l.length) : (insV l i v).length = l.length + 1 := by simp [insV]; omega
def putV (l : List Int) (v : Int) : List Int := if l[posV l v]? = some v then l else insV l (posV l v) v
theorem putV_len (l : List Int) (v : Int) : (putV l v).length ≤ l.length + 1 := by
  unfold putV
  split
  · omega
  · rw [insV_len (posV_le l v)]; omega
abbrev l4PutS (R : Rel) : Prop := ∀ (l : List Int) (v : Int), l.length ≤ 4194304 → R [.sl 1 1 l.length (ints l), I v] [] (.sl 0 1 (putV l v).length (ints (putV l v))) []
abbrev withVersionS (R : Rel) : Prop := ∀ (l : List Int) (v : Int), l.length ≤ 4194304 → R [.arr 0, I v] [.arr 1 0 l.length (ints l)] (.sl 0 1 (putV l v).length (ints (putV l v))) [.dead]
abbrev InsertS (R : Rel) : Prop := ∀ (l : List Int) (i : Nat) (v : Int), l.length ≤ 4194304 → i ≤ l.length → R [.arr 0, I i, .arr 1] [.arr 1 0 l.length (ints l), .arr 1 0 1 (ints [v])] (.sl 0 1 (insV l i v).length (ints (insV l i v))) [.dead, .dead]
theorem l4Put_b (D : Dn) : l4PutS (Body D sspec_l4Put) := by
  intro l v hl
  simp -implicitDefEqProofs
  refine swp_loop (fun k s => ∃ j, j + k = l.length ∧ posV l v = j + posV (l.drop j) v ∧ s = ⟨[.sl 1 1 l.length (ints l), I v, .undef, I j, .undef, .undef], [.free, .free, .free, .free, .free, .free, .free]⟩) ?_ (l.length) _ ⟨0, by simp, by simp, by simp⟩
  intro k s ⟨j, hj, hp, hs⟩
  subst hs
  by_cases hjn : j < l.length
  · have hw : IntKind.i64.wrap ((j : Int) + 1) = (j + 1 : Nat) := by rw [wrap_id (by omega) (by omega)]; simp
    by_cases hv : l[j] < v
    · have hst := posV_step hjn hv
      simp -implicitDefEqProofs [hjn, hv]
      exact ⟨k - 1, by omega, j + 1, by omega, by omega, by simp [hw]⟩
    · have hst := posV_stop hjn hv
      have hpe : posV l v = j := by omega
      have b1 : l.length * 8 ≤ 1099511627776 := by omega
      have b2 : j * 8 ≤ 1099511627776 := by omega
      have b3 : (j + 1) * 8 ≤ 1099511627776 := by omega
      have b4 : (j + 1 + (l.length - j)) * 8 ≤ 1099511627776 := by omega
      have hjl : j ≤ l.length := by omega
      have hjl' : (j : Int) ≤ l.length := by omega
      have hmin : min j l.length = j := by omega
      have htk : List.take (l.length - j) (List.drop j l) = List.drop j l := List.take_of_length_le (by simp)
      by_cases he : l[j] = v
      · have e : putV l v = l := by unfold putV; rw [hpe, List.getElem?_eq_getElem hjn, he, if_pos rfl]
        rw [e]
        simp -implicitDefEqProofs [hjn, hv, he, b1]
      · have e : putV l v = l.take j ++ v :: l.drop j := by unfold putV insV; rw [hpe, List.getElem?_eq_getElem hjn, if_neg (by simpa using he)]
        have el : (putV l v).length = j + 1 + (l.length - j) := by rw [e]; simp; omega
        simp -implicitDefEqProofs [hjn, hv, he, hjl, hjl', hmin, b2, b3, b4]
        rw [el, e]
        simp [htk, ints_app]
  · have hst := posV_end (v := v) (l := l) (j := j) (by omega)
    have hpe : posV l v = j := by omega
    have b1 : l.length * 8 ≤ 1099511627776 := by omega
    have b2 : j * 8 ≤ 1099511627776 := by omega
    have b3 : (j + 1) * 8 ≤ 1099511627776 := by omega
    have b4 : (j + 1 + (l.length - j)) * 8 ≤ 1099511627776 := by omega
    have hjl : j ≤ l.length := by omega
    have hjl' : (j : Int) ≤ l.length := by omega
    have hmin : min j l.length = j := by omega
    have htk : List.take (l.length - j) (List.drop j l) = List.drop j l := List.take_of_length_le (by simp)
    have e : putV l v = l.take j ++ v :: l.drop j := by unfold putV insV; rw [hpe, List.getElem?_eq_none (by omega), if_neg (by simp)]
    have el : (putV l v).length = j + 1 + (l.length - j) := by rw [e]; simp; omega
    simp -implicitDefEqProofs [hjn, hjl, hjl', hmin, b2, b3, b4]
    rw [el, e]
    simp [htk, ints_app]
end Go.Eng.T

namespace Go.Eng.T
set_option maxRecDepth 20000
set_option maxHeartbeats 1000000

/-- a row under way from xs to its images -/
def mapJ {α : Type} (f : α → α) (xs : List α) (j : Nat) : List α := (xs.take j).map f ++ xs.drop j
section
variable {α : Type} {f : α → α} {xs : List α} {j : Nat}
theorem mapJ_zero : mapJ f xs 0 = xs := by simp [mapJ]
theorem mapJ_all (h : xs.length ≤ j) : mapJ f xs j = xs.map f := by simp [mapJ, List.take_of_length_le h, List.drop_eq_nil_of_le h]
@[simp] theorem mapJ_len (h : j ≤ xs.length) : (mapJ f xs j).length = xs.length := by simp [mapJ]; omega
theorem mapJ_get (h : j < xs.length) : (mapJ f xs j)[j]'(by rw [mapJ_len (by omega)]; exact h) = xs[j] := by
  unfold mapJ
  have hl : ((xs.take j).map f).length = j := by simp; omega
  have hm : min j xs.length = j := by omega
  rw [List.getElem_append_right (by omega)]
  simp [hm]
theorem mapJ_set (h : j < xs.length) : (mapJ f xs j).set j (f xs[j]) = mapJ f xs (j + 1) := by
  unfold mapJ
  have hl : ((xs.take j).map f).length = j := by simp; omega
  have ht : xs.take (j + 1) = xs.take j ++ [xs[j]] := by simp
  rw [List.set_append_right _ _ (by omega), hl, Nat.sub_self, ht, List.map_append, List.drop_eq_getElem_cons h, List.set_cons_zero, List.append_assoc]
  rfl
theorem mapJ_same (h : j < xs.length) (hf : f xs[j] = xs[j]) : mapJ f xs (j + 1) = mapJ f xs j := by
  rw [← mapJ_set h, hf]
  have := mapJ_get (f := f) h
  conv => lhs; rw [← this]
  simp
end
def leaveEnd (w : World) (e : Endpoint) : Endpoint := if 0 < bestCommon w.server (withoutV e.versions w.rollout.version) then ⟨withoutV e.versions w.rollout.version, e.tags, e.path, e.cls⟩ else e
def leave (w : World) : World := { w with ends := w.ends.map (leaveEnd w), stage := [] }
abbrev LeaveRolloutS (R : Rel) : Prop := ∀ w : World, szWorld w ≤ 4194304 → R [arg (eWorld w)] [] (.agg (eWorld (leave w))) []
theorem wv_len (a : List Int) (v : Int) : (withoutV a v).length ≤ a.length := List.length_filter_le _ _
theorem end_vers {w : World} (h : szWorld w ≤ 4194304) {j : Nat} (hj : j < w.ends.length) : w.ends[j].versions.length ≤ 4194304 := by
  have := size_at (f := szEndpoint) hj
  have e : szEndpoint w.ends[j] = w.ends[j].versions.length + w.ends[j].tags.length + sumF szBox w.ends[j].path := rfl
  unfold szWorld at h
  omega
theorem world_serv {w : World} (h : szWorld w ≤ 4194304) : w.server.length ≤ 4194304 := by unfold szWorld at h; omega
theorem leave_flat (w : World) : (leave w).ends.length = w.ends.length := by simp [leave]
end Go.Eng.T

namespace Go.Eng.T
theorem sumF_map_le {α : Type} {f : α → Nat} {g : α → α} (h : ∀ x, f (g x) ≤ f x) (xs : List α) : sumF f (xs.map g) ≤ sumF f xs := by
  induction xs with
  | nil => simp [sumF]
  | cons x r ih =>
    have := h x
    simp only [sumF, List.map_cons, List.length_cons, List.sum_cons] at *
    omega
theorem leaveEnd_sz (w : World) (x : Endpoint) : szEndpoint (leaveEnd w x) ≤ szEndpoint x := by
  unfold leaveEnd
  split
  · have := wv_len x.versions w.rollout.version
    simp only [szEndpoint]
    omega
  · exact Nat.le_refl _
theorem leave_sz (w : World) : szWorld (leave w) ≤ szWorld w := by
  have := sumF_map_le (f := szEndpoint) (leaveEnd_sz w) w.ends
  have h0 : sumF szDialed ([] : List Dialed) = 0 := rfl
  simp only [szWorld, leave, h0]
  omega
end Go.Eng.T

namespace Go.Eng.T
set_option maxRecDepth 20000
set_option maxHeartbeats 2000000
/-- a row under way, each place with its number -/
def mapIJ {α : Type} (f : Nat → α → α) (xs : List α) (j : Nat) : List α := xs.mapIdx fun i x => if i < j then f i x else x
section
variable {α : Type} {f : Nat → α → α} {xs : List α} {j : Nat}
@[simp] theorem mapIJ_len : (mapIJ f xs j).length = xs.length := by simp [mapIJ]
theorem mapIJ_zero : mapIJ f xs 0 = xs := by
  apply List.ext_getElem
  · simp
  · intro n h1 h2; simp [mapIJ]
theorem mapIJ_all (h : xs.length ≤ j) : mapIJ f xs j = xs.mapIdx f := by
  apply List.ext_getElem
  · simp
  · intro n h1 h2
    simp only [mapIJ_len] at h1
    simp only [mapIJ, List.getElem_mapIdx]
    rw [if_pos (by omega)]
theorem mapIJ_get (h : j < xs.length) : (mapIJ f xs j)[j]'(by rw [mapIJ_len]; exact h) = xs[j] := by simp [mapIJ]
theorem mapIJ_set (h : j < xs.length) : (mapIJ f xs j).set j (f j xs[j]) = mapIJ f xs (j + 1) := by
  apply List.ext_getElem
  · simp
  · intro n h1 h2
    simp only [List.length_set, mapIJ_len] at h1
    rw [List.getElem_set]
    simp only [mapIJ, List.getElem_mapIdx]
    by_cases hn : j = n
    · subst hn; simp
    · rw [if_neg hn]
      by_cases hl : n < j
      · rw [if_pos hl, if_pos (by omega)]
      · rw [if_neg hl, if_neg (by omega)]
theorem mapIJ_same (h : j < xs.length) (hf : f j xs[j] = xs[j]) : mapIJ f xs (j + 1) = mapIJ f xs j := by
  rw [← mapIJ_set h, hf]
  have := mapIJ_get (f := f) h
  conv => lhs; rw [← this]
  simp
end
def enterEnd (w : World) (i : Nat) (e : Endpoint) : Endpoint := if isIn w.rollout i w.ends.length = true then ⟨putV e.versions w.rollout.version, e.tags, e.path, e.cls⟩ else e
def canEnter (w : World) : Bool := isRollout w.rollout && !w.rollout.off
def enter (w : World) : World := if canEnter w = true then { w with ends := w.ends.mapIdx (enterEnd w), stage := [], reached := max w.reached (w.rollout.pos + 1) } else w
abbrev EnterStageS (R : Rel) : Prop := ∀ w : World, szWorld w ≤ 4194304 → R [arg (eWorld w)] [] (.agg (eWorld (enter w))) []
abbrev MaxIS (R : Rel) : Prop := ∀ a b : Int, R [I a, I b] [] (I (max a b)) []
abbrev MinIS (R : Rel) : Prop := ∀ a b : Int, R [I a, I b] [] (I (min a b)) []
theorem max_ite {a b : Int} : max a b = if a < b then b else a := by omega
theorem sMax_b (D : Dn) : MaxIS (Body D sspec_Max) := by
  intro a b
  by_cases h : a < b
  · have e : max a b = b := by omega
    simp -implicitDefEqProofs [h, e]
  · have e : max a b = a := by omega
    simp -implicitDefEqProofs [h, e]
def stepStart (w : World) : World × Bool := if decide (w.reached = 0) && canEnter w then (enter w, true) else (w, false)
abbrev StepStartS (R : Rel) : Prop := ∀ w : World, szWorld w ≤ 4194304 → R [arg (eWorld w)] [] (.tup [.agg (eWorld (stepStart w).1), B (stepStart w).2]) []
theorem sumF_mapI_le {α : Type} {f : α → Nat} {g : Nat → α → α} (h : ∀ i x, f (g i x) ≤ f x + 1) : ∀ xs : List α, sumF f (xs.mapIdx g) ≤ sumF f xs + xs.length := by
  intro xs
  induction xs generalizing g with
  | nil => simp [sumF]
  | cons x r ih =>
    have h0 := h 0 x
    have ih' := ih (g := fun i => g (i + 1)) (fun i x => h (i + 1) x)
    simp only [sumF, List.mapIdx_cons, List.map_cons, List.length_cons, List.sum_cons, List.length_mapIdx] at *
    omega
theorem enterEnd_sz (w : World) (i : Nat) (x : Endpoint) : szEndpoint (enterEnd w i x) ≤ szEndpoint x + 1 := by
  unfold enterEnd
  split
  · have := putV_len x.versions w.rollout.version
    simp only [szEndpoint]
    omega
  · omega
theorem enter_sz (w : World) : szWorld (enter w) ≤ szWorld w + w.ends.length := by
  have := sumF_mapI_le (f := szEndpoint) (enterEnd_sz w) w.ends
  have h0 : sumF szDialed ([] : List Dialed) = 0 := rfl
  unfold enter
  split
  · simp only [szWorld, h0]
    omega
  · omega
theorem stepStart_sz (w : World) : szWorld (stepStart w).1 ≤ szWorld w + w.ends.length := by
  unfold stepStart
  split
  · exact enter_sz w
  · dsimp only; omega
end Go.Eng.T

namespace Go.Eng.T
set_option maxRecDepth 20000
set_option maxHeartbeats 2000000
open Go.Lib (compact compactUpTo keeps)

/-- numbers that rise -/
abbrev Up (l : List Int) : Prop := l.Pairwise (· < ·)
theorem up_ext : ∀ {a b : List Int}, Up a → Up b → (∀ x, x ∈ a ↔ x ∈ b) → a = b
  | [], [], _, _, _ => rfl
  | [], y :: b, _, _, h => by have := (h y).2 (by simp); simp at this
  | x :: a, [], _, _, h => by have := (h x).1 (by simp); simp at this
  | x :: a, y :: b, ha, hb, h => by
    rw [Up, List.pairwise_cons] at ha hb
    have hxy : x = y := by
      have h1 := (h x).1 (by simp)
      have h2 := (h y).2 (by simp)
      rcases List.mem_cons.1 h1 with e | h1
      · exact e
      · rcases List.mem_cons.1 h2 with e | h2
        · exact e.symm
        · have := hb.1 x h1; have := ha.1 y h2; omega
    subst hxy
    congr 1
    refine up_ext ha.2 hb.2 fun z => ⟨fun hz => ?_, fun hz => ?_⟩
    · rcases List.mem_cons.1 ((h z).1 (by simp [hz])) with e | h1
      · subst e; have := ha.1 z hz; omega
      · exact h1
    · rcases List.mem_cons.1 ((h z).2 (by simp [hz])) with e | h1
      · subst e; have := hb.1 z hz; omega
      · exact h1
theorem putV_mem : ∀ (l : List Int) (v x : Int), x ∈ putV l v ↔ x ∈ l ∨ x = v := by
  intro l v x
  unfold putV
  split
  · rename_i h
    constructor
    · exact .inl
    · rintro (h1 | rfl)
      · exact h1
      · exact List.mem_of_getElem? h
  · unfold insV
    rw [List.mem_append, List.mem_cons]
    have : x ∈ l ↔ x ∈ l.take (posV l v) ∨ x ∈ l.drop (posV l v) := by
      conv => lhs; rw [← List.take_append_drop (posV l v) l, List.mem_append]
    rw [this]
    constructor
    · rintro (h1 | h1 | h1)
      · exact .inl (.inl h1)
      · exact .inr h1
      · exact .inl (.inr h1)
    · rintro ((h1 | h1) | h1)
      · exact .inl h1
      · exact .inr (.inr h1)
      · exact .inr (.inl h1)
theorem posV_before : ∀ (l : List Int) (v x : Int), x ∈ l.take (posV l v) → x < v
  | [], v, x, h => by simp at h
  | y :: r, v, x, h => by
    simp only [posV] at h
    split at h
    · rw [List.take_succ_cons] at h
      rcases List.mem_cons.1 h with rfl | h
      · assumption
      · exact posV_before r v x h
    · simp at h
theorem putV_up : ∀ {l : List Int} (v : Int), Up l → Up (putV l v) := by
  intro l v hl
  unfold putV
  split
  · exact hl
  · rename_i hne
    unfold insV Up
    rw [List.pairwise_append, List.pairwise_cons]
    have hb := posV_before l v
    have hafter : ∀ y, y ∈ l.drop (posV l v) → v < y := by
      intro y hy
      by_cases hk : posV l v < l.length
      · have hs := posV_stop (l := l) (v := v) hk (by
          intro hlt
          have key : ∀ (l : List Int) (h : posV l v < l.length), ¬ l[posV l v] < v := by
            intro l
            induction l with
            | nil => intro h; simp at h
            | cons x r ih =>
              intro h
              by_cases hx : x < v
              · have e : posV (x :: r) v = posV r v + 1 := by simp [posV, hx]
                have h' : posV r v < r.length := by rw [e] at h; simpa using h
                have := ih h'
                simp only [e, List.getElem_cons_succ]
                exact this
              · have e : posV (x :: r) v = 0 := by simp [posV, hx]
                simp only [e, List.getElem_cons_zero]
                exact hx
          exact key l hk hlt)
        have key : ∀ (l : List Int) (h : posV l v < l.length), ¬ l[posV l v] < v := by
          intro l
          induction l with
          | nil => intro h; simp at h
          | cons x r ih =>
            intro h
            by_cases hx : x < v
            · have e : posV (x :: r) v = posV r v + 1 := by simp [posV, hx]
              have h' : posV r v < r.length := by rw [e] at h; simpa using h
              have := ih h'
              simp only [e, List.getElem_cons_succ]
              exact this
            · have e : posV (x :: r) v = 0 := by simp [posV, hx]
              simp only [e, List.getElem_cons_zero]
              exact hx
        have h1 := key l hk
        have h2 : l[posV l v] ≠ v := by
          intro e; apply hne; rw [List.getElem?_eq_getElem hk, e]
        rw [List.drop_eq_getElem_cons hk] at hy
        have hp : (l[posV l v] :: l.drop (posV l v + 1)).Pairwise (· < ·) := by rw [← List.drop_eq_getElem_cons hk]; exact hl.drop
        rw [List.pairwise_cons] at hp
        rcases List.mem_cons.1 hy with rfl | hy
        · omega
        · have := hp.1 y hy; omega
      · rw [List.drop_eq_nil_of_le (by omega)] at hy; simp at hy
    refine ⟨hl.take, ⟨hafter, hl.drop⟩, fun a ha b hb' => ?_⟩
    have h1 := hb a ha
    rcases List.mem_cons.1 hb' with rfl | hb'
    · exact h1
    · have := hafter b hb'; omega
def putAll (l : List Int) (xs : List Int) : List Int := xs.foldl putV l
theorem putAll_up : ∀ {xs l : List Int}, Up l → Up (putAll l xs)
  | [], _, h => h
  | x :: xs, l, h => putAll_up (xs := xs) (putV_up x h)
theorem putAll_mem : ∀ (xs l : List Int) (x : Int), x ∈ putAll l xs ↔ x ∈ l ∨ x ∈ xs
  | [], l, x => by simp [putAll]
  | y :: xs, l, x => by
    have := putAll_mem xs (putV l y) x
    unfold putAll at *
    rw [List.foldl_cons, this, putV_mem, List.mem_cons]
    constructor
    · rintro ((h | h) | h)
      · exact .inl h
      · exact .inr (.inl h)
      · exact .inr (.inr h)
    · rintro (h | h | h)
      · exact .inl (.inl h)
      · exact .inl (.inr h)
      · exact .inr h
theorem compact_mem (zs : List Int) (x : Int) : x ∈ compact zs ↔ x ∈ zs := by
  have hget : ∀ i, i < zs.length → zs.toArray[i]! = zs[i]! := fun i _ => by simp
  unfold compact compactUpTo
  simp only [List.mem_map, List.mem_filter, List.mem_range]
  constructor
  · rintro ⟨i, ⟨hi, _⟩, rfl⟩
    rw [hget i hi, getElem!_pos zs i hi]
    exact List.getElem_mem hi
  · intro hx
    -- the first place at which x stands
    have key : ∀ n, (h : n < zs.length) → zs[n] = x → ∃ i, (i < zs.length ∧ keeps zs.toArray i = true) ∧ zs.toArray[i]! = x := by
      intro n
      induction n with
      | zero => intro h e; exact ⟨0, ⟨h, by simp [keeps]⟩, by rw [hget 0 h, getElem!_pos zs 0 h, e]⟩
      | succ n ih =>
        intro h e
        by_cases hk : zs[n] = x
        · exact ih (by omega) hk
        · refine ⟨n + 1, ⟨h, ?_⟩, by rw [hget _ h, getElem!_pos zs _ h, e]⟩
          unfold keeps
          rw [show n + 1 - 1 = n by omega, hget _ h, hget n (by omega), getElem!_pos zs _ h, getElem!_pos zs n (by omega), e]
          simp
          exact fun h => hk h.symm
    obtain ⟨n, hn, e⟩ := List.getElem_of_mem hx
    exact key n hn e
theorem compact_up (zs : List Int) (h : zs.Pairwise (· ≤ ·)) : Up (compact zs) := by
  have hget : ∀ i, i < zs.length → zs.toArray[i]! = zs[i]! := fun i _ => by simp
  unfold compact compactUpTo Up
  rw [List.pairwise_map]
  have hr : ((List.range zs.length).filter (keeps zs.toArray)).Pairwise (· < ·) := List.Pairwise.filter _ List.pairwise_lt_range
  refine hr.imp_of_mem ?_
  intro i j hi hj hij
  simp only [List.mem_filter, List.mem_range] at hi hj
  have hk := hj.2
  unfold keeps at hk
  have h0 : ¬ j = 0 := by omega
  simp only [h0, false_or, decide_eq_true_eq] at hk
  rw [hget j hj.1, hget (j - 1) (by omega), getElem!_pos zs j hj.1, getElem!_pos zs (j - 1) (by omega)] at hk
  rw [hget i hi.1, hget j hj.1, getElem!_pos zs i hi.1, getElem!_pos zs j hj.1]
  rw [List.pairwise_iff_getElem] at h
  have h1 := h (j - 1) j (by omega) hj.1 (by omega)
  have h2 : zs[i] ≤ zs[j - 1] := by
    by_cases e : i = j - 1
    · simp [e]
    · exact h i (j - 1) hi.1 (by omega) (by omega)
  omega
def sortI (l : List Int) : List Int := l.mergeSort fun x y => decide (x ≤ y)
theorem sortI_len (l : List Int) : (sortI l).length = l.length := by simp [sortI]
theorem sortI_mem (l : List Int) (x : Int) : x ∈ sortI l ↔ x ∈ l := by simp [sortI]
theorem sortI_up (l : List Int) : (sortI l).Pairwise (· ≤ ·) := by
  have := List.pairwise_mergeSort (le := fun x y : Int => decide (x ≤ y)) (fun a b c h1 h2 => by simp at *; omega) (fun a b => by simp; omega) l
  exact this.imp fun h => by simpa using h
theorem compact_sort (l : List Int) : compact (sortI l) = putAll [] l := by
  refine up_ext (compact_up _ (sortI_up l)) (putAll_up List.Pairwise.nil) fun x => ?_
  rw [compact_mem, sortI_mem, putAll_mem]
  simp
abbrev SortS (R : Rel) : Prop := ∀ l : List Int, l.length ≤ 4194304 → R [.arr 0] [.arr 1 0 l.length (ints l)] (.tup []) [.arr 1 0 l.length (ints (sortI l))]
abbrev CompactS (R : Rel) : Prop := ∀ l : List Int, l.length ≤ 4194304 → R [.arr 0] [.arr 1 0 l.length (ints l)] (.sl 0 1 (compact l).length (ints (compact l))) [.dead]

def hurtF (w : World) (xs : List Logged) : List Int := (xs.filter (hurtL w)).map (·.fin)
def hurtEnds (w : World) : List Int := putAll [] (hurtF w w.log)
theorem hurtF_step {w : World} {xs : List Logged} {j : Nat} (h : j < xs.length) : hurtF w (xs.take (j + 1)) = hurtF w (xs.take j) ++ (if hurtL w xs[j] then [xs[j].fin] else []) := by
  unfold hurtF
  rw [filtE_step h]
  by_cases hp : hurtL w xs[j] = true <;> simp [hp]
theorem hurtF_all {w : World} {xs : List Logged} {j : Nat} (h : xs.length ≤ j) : hurtF w (xs.take j) = hurtF w xs := by rw [List.take_of_length_le h]
theorem hurtF_len {w : World} {xs : List Logged} {j : Nat} : (hurtF w (xs.take j)).length ≤ j := by
  unfold hurtF
  rw [List.length_map]
  exact filtE_len
theorem putAll_app (l xs : List Int) (y : Int) : putAll l (xs ++ [y]) = putV (putAll l xs) y := by unfold putAll; rw [List.foldl_append]; rfl
theorem putAll_len : ∀ (xs l : List Int), (putAll l xs).length ≤ l.length + xs.length
  | [], l => by simp [putAll]
  | x :: xs, l => by
    have h1 := putAll_len xs (putV l x)
    have h2 := putV_len l x
    unfold putAll at *
    simp only [List.foldl_cons, List.length_cons]
    omega
theorem hurt_len {w : World} (h : szWorld w ≤ 4194304) : (hurtEnds w).length ≤ 4194304 := by
  have h1 := putAll_len (hurtF w w.log) []
  have h2 := hurtF_len (w := w) (xs := w.log) (j := w.log.length)
  have h3 := world_log h
  rw [List.take_length] at h2
  simp only [List.length_nil, Nat.zero_add] at h1
  unfold hurtEnds
  omega
abbrev HurtEndsS (R : Rel) : Prop := ∀ w : World, szWorld w ≤ 4194304 → R [arg (eWorld w)] [] (.sl 0 1 (hurtEnds w).length (ints (hurtEnds w))) []
theorem sHurtEnds_b (D : Dn) (hB : HurtS (D gspec_l37Bad)) (hP : l4PutS (D gspec_l4Put)) : HurtEndsS (Body D sspec_HurtEnds) := by
  intro w hsz
  have hl := world_log hsz
  have hres : hurtEnds w = putAll [] (hurtF w w.log) := rfl
  rw [hres]
  simp -implicitDefEqProofs
  refine swp_loop (fun k s => ∃ j o2, j + k = w.log.length ∧ s = ⟨[.undef, .ptr 0 0, .undef, .arr 3, I j, .undef, .undef], [.var ((eWorld w).map (roCell 1)), .free, o2, .arr 1 0 (putAll [] (hurtF w (w.log.take j))).length (ints (putAll [] (hurtF w (w.log.take j))))]⟩) ?_ (w.log.length) _ ⟨0, .free, by simp, by simp [hurtF, putAll]⟩
  intro k s ⟨j, o2, hj, hs⟩
  subst hs
  by_cases hjn : j < w.log.length
  · have hw : IntKind.i64.wrap ((j : Int) + 1) = (j + 1 : Nat) := by rw [wrap_id (by omega) (by omega)]; simp
    have hst := hurtF_step (w := w) hjn
    have hfl := hurtF_len (w := w) (xs := w.log) (j := j)
    have hpl := putAll_len (hurtF w (w.log.take j)) []
    simp only [List.length_nil, Nat.zero_add] at hpl
    simp -implicitDefEqProofs [hjn]
    refine callQ_of (hB w w.log[j] (world_up hsz hjn)) ?_
    by_cases h1 : hurtL w w.log[j] = true
    · rw [if_pos h1] at hst
      simp -implicitDefEqProofs [h1, hjn]
      refine callQ_of (hP (putAll [] (hurtF w (w.log.take j))) w.log[j].fin (by omega)) ?_
      simp -implicitDefEqProofs
      exact ⟨k - 1, by omega, j + 1, by omega, by simp [hw], by rw [hst, putAll_app], by rw [hst, putAll_app]⟩
    · rw [if_neg h1, List.append_nil] at hst
      simp -implicitDefEqProofs [h1]
      exact ⟨k - 1, by omega, j + 1, by omega, by simp [hw], by rw [hst], by rw [hst]⟩
  · have hx := hurtF_all (w := w) (xs := w.log) (j := j) (by omega)
    simp -implicitDefEqProofs [hjn, hx]
theorem iHurtEnds_b (D : Dn) (hB : HurtS (D gimpl_isHurt)) (hS : SortS (D gslices_Sort___int_int_)) (hC : CompactS (D gslices_Compact___int_int_)) : HurtEndsS (Body D simplV_HurtEnds) := by
  intro w hsz
  have hl := world_log hsz
  have hres : hurtEnds w = compact (sortI (hurtF w w.log)) := (compact_sort _).symm
  rw [hres]
  simp -implicitDefEqProofs
  refine swp_loop (fun k s => ∃ j v4 o2 o3 o4, j + k = w.log.length ∧ s = ⟨[.undef, .ptr 0 0, .undef, .arr 6, v4, .sl 1 8 w.log.length (w.log.flatMap eLogged), I w.log.length, I j, .undef, .undef], [.var ((eWorld w).map (roCell 1)), .free, o2, o3, o4, .free, .arr 1 0 (hurtF w (w.log.take j)).length (ints (hurtF w (w.log.take j)))]⟩) ?_ (w.log.length) _ ⟨0, .undef, .free, .free, .free, by simp, by simp [hurtF]⟩
  intro k s ⟨j, v4, o2, o3, o4, hj, hs⟩
  subst hs
  by_cases hjn : j < w.log.length
  · have hw : IntKind.i64.wrap ((j : Int) + 1) = (j + 1 : Nat) := by rw [wrap_id (by omega) (by omega)]; simp
    have hst := hurtF_step (w := w) hjn
    have hfl := hurtF_len (w := w) (xs := w.log) (j := j)
    have hbd : ((hurtF w (w.log.take j)).length + 1) * 8 ≤ 1099511627776 := by omega
    simp -implicitDefEqProofs [hjn]
    refine callQ_of (hB w w.log[j] (world_up hsz hjn)) ?_
    by_cases h1 : hurtL w w.log[j] = true
    · rw [if_pos h1] at hst
      simp -implicitDefEqProofs [h1, hjn, hbd]
      exact ⟨k - 1, by omega, j + 1, by omega, by simp [hw], by rw [hst]; simp, by rw [hst]⟩
    · rw [if_neg h1, List.append_nil] at hst
      simp -implicitDefEqProofs [h1]
      exact ⟨k - 1, by omega, j + 1, by omega, by simp [hw], by rw [hst], by rw [hst]⟩
  · have hx := hurtF_all (w := w) (xs := w.log) (j := j) (by omega)
    have hfl := hurtF_len (w := w) (xs := w.log) (j := w.log.length)
    rw [List.take_length] at hfl
    simp -implicitDefEqProofs [hjn, hx]
    refine callQ_of (hS _ (by omega)) ?_
    simp -implicitDefEqProofs [sortI_len]
    have hc := hC (sortI (hurtF w w.log)) (by rw [sortI_len]; omega)
    rw [sortI_len] at hc
    refine callQ_of (hc) ?_
    simp -implicitDefEqProofs

def rollAt (r : Rollout) (i : Nat) : Rollout := ⟨r.version, r.stages, i, r.off⟩
def mostTo (r : Rollout) (n : Int) : Nat → Int
  | 0 => 0
  | k + 1 => max (mostTo r n k) (countIn (rollAt r k) n)
def mostHurt (r : Rollout) (n s : Int) : Int := if isRollout r = true ∧ InQ s 1 r.stages.length then mostTo r n s.toNat else 0
abbrev MostHurtS (R : Rel) : Prop := ∀ (r : Rollout) (n s : Int), r.stages.length ≤ 4194304 → R [arg (eRollout r), I n, I s] [] (I (mostHurt r n s)) []
theorem sMostHurt_b (D : Dn) (hR : IsRolloutS (D gspec_IsRollout)) (hI : InS (D gspec_l1In)) (hCp : cpRolloutS (D gspec_l26Copy)) (hC : CountInS (D gspec_CountIn)) (hM : MaxIS (D gspec_Max)) : MostHurtS (Body D sspec_MostHurt) := by
  intro r n st hl
  simp -implicitDefEqProofs
  refine callQ_of (hR r hl) ?_
  by_cases h1 : isRollout r = true
  rotate_left
  · have e : mostHurt r n st = 0 := by unfold mostHurt; rw [if_neg (by simp [h1])]
    simp -implicitDefEqProofs [h1, e]
  simp -implicitDefEqProofs [h1]
  refine callQ_of (hI _ _ _) ?_
  by_cases h2 : InQ st 1 r.stages.length
  rotate_left
  · have e : mostHurt r n st = 0 := by unfold mostHurt; rw [if_neg (fun h => h2 h.2)]
    simp -implicitDefEqProofs [h2, e]
  obtain ⟨m, rfl⟩ : ∃ m : Nat, st = m := ⟨st.toNat, by have := h2.1; omega⟩
  have hm : m ≤ r.stages.length := by have := h2.2; omega
  have e : mostHurt r n m = mostTo r n m := by unfold mostHurt; rw [if_pos ⟨h1, h2⟩]; simp
  rw [e]
  simp -implicitDefEqProofs [h2]
  refine callQ_of (hCp r hl) ?_
  simp -implicitDefEqProofs
  refine swp_loop (fun k s => ∃ j at0, j + k = m ∧ s = ⟨[.undef, I n, I m, .undef, .undef, I (mostTo r n j), .ptr 2 0, I j, .undef, .undef], [.var ((eRollout r).map (roCell 1)), .arr 1 0 r.stages.length (ints r.stages), .var [.sc (.int .i64 r.version), .arr 1, .sc (.int .i64 at0), .sc (.bool r.off)]]⟩) ?_ (m) _ ⟨0, r.pos, by simp, by simp [mostTo]⟩
  intro k s ⟨j, at0, hj, hs⟩
  subst hs
  by_cases hjn : j < m
  · have hw : IntKind.i64.wrap ((j : Int) + 1) = (j + 1 : Nat) := by rw [wrap_id (by omega) (by omega)]; simp
    simp -implicitDefEqProofs [hjn]
    refine callQ_of (hC (rollAt r j) n hl) ?_
    simp -implicitDefEqProofs
    refine callQ_of (hM _ _) ?_
    simp -implicitDefEqProofs
    exact ⟨k - 1, by omega, j + 1, by omega, by simp [mostTo], by simp [hw]⟩
  · obtain rfl : j = m := by omega
    simp -implicitDefEqProofs
theorem iMostHurt_b (D : Dn) (hR : IsRolloutS (D gimpl_IsRollout)) (hI : InS (D gimpl_InRange)) (hC : CountInS (D gimpl_CountIn)) : MostHurtS (Body D simpl_MostHurt) := by
  intro r n st hl
  simp -implicitDefEqProofs
  refine callQ_of (hR r hl) ?_
  by_cases h1 : isRollout r = true
  rotate_left
  · have e : mostHurt r n st = 0 := by unfold mostHurt; rw [if_neg (by simp [h1])]
    simp -implicitDefEqProofs [h1, e]
  simp -implicitDefEqProofs [h1]
  refine callQ_of (hI _ _ _) ?_
  by_cases h2 : InQ st 1 r.stages.length
  rotate_left
  · have e : mostHurt r n st = 0 := by unfold mostHurt; rw [if_neg (fun h => h2 h.2)]
    simp -implicitDefEqProofs [h2, e]
  obtain ⟨m, rfl⟩ : ∃ m : Nat, st = m := ⟨st.toNat, by have := h2.1; omega⟩
  have hm : m ≤ r.stages.length := by have := h2.2; omega
  have e : mostHurt r n m = mostTo r n m := by unfold mostHurt; rw [if_pos ⟨h1, h2⟩]; simp
  rw [e]
  simp -implicitDefEqProofs [h2]
  refine swp_loop (fun k s => ∃ j at0, j + k = m ∧ s = ⟨[.undef, I n, .undef, .ptr 0 0, .undef, I (mostTo r n j), .undef, .undef, I m, I j, .undef], [.var [.sc (.int .i64 r.version), .sl 1 1 r.stages.length (ints r.stages), .sc (.int .i64 at0), .sc (.bool r.off)]]⟩) ?_ (m) _ ⟨0, r.pos, by simp, by simp [mostTo]⟩
  intro k s ⟨j, at0, hj, hs⟩
  subst hs
  by_cases hjn : j < m
  · have hw : IntKind.i64.wrap ((j : Int) + 1) = (j + 1 : Nat) := by rw [wrap_id (by omega) (by omega)]; simp
    simp -implicitDefEqProofs [hjn]
    refine callQ_of (hC (rollAt r j) n hl) ?_
    by_cases hmx : mostTo r n j < countIn (rollAt r j) n
    · have em : mostTo r n (j + 1) = countIn (rollAt r j) n := by simp only [mostTo]; omega
      simp -implicitDefEqProofs [hmx]
      exact ⟨k - 1, by omega, j + 1, by omega, by rw [em], by simp [hw]⟩
    · have em : mostTo r n (j + 1) = mostTo r n j := by simp only [mostTo]; omega
      simp -implicitDefEqProofs [hmx]
      exact ⟨k - 1, by omega, j + 1, by omega, by rw [em], by simp [hw]⟩
  · obtain rfl : j = m := by omega
    simp -implicitDefEqProofs
def rollOn (r : Rollout) : Rollout := ⟨r.version, r.stages, r.pos, false⟩
def isBounded (w : World) : Bool := decide (((hurtEnds w).length : Int) ≤ mostHurt (rollOn w.rollout) w.ends.length w.reached)
abbrev IsBoundedS (R : Rel) : Prop := ∀ w : World, szWorld w ≤ 4194304 → R [arg (eWorld w)] [] (B (isBounded w)) []
theorem sIsBounded_b (D : Dn) (hCp : cpRolloutS (D gspec_l26Copy)) (hH : HurtEndsS (D gspec_HurtEnds)) (hM : MostHurtS (D gspec_MostHurt)) : IsBoundedS (Body D sspec_IsBounded) := by
  intro w hsz
  simp -implicitDefEqProofs
  refine callQ_of (hCp w.rollout (world_roll hsz)) ?_
  simp -implicitDefEqProofs
  refine callQ_of (hH w hsz) ?_
  simp -implicitDefEqProofs
  refine callQ_of (hM (rollOn w.rollout) _ _ (world_roll hsz)) ?_
  simp -implicitDefEqProofs [isBounded]
theorem iIsBounded_b (D : Dn) (hH : HurtEndsS (D gimpl_HurtEnds)) (hM : MostHurtS (D gimpl_MostHurt)) : IsBoundedS (Body D simpl_IsBounded) := by
  intro w hsz
  simp -implicitDefEqProofs
  refine callQ_of (hH w hsz) ?_
  simp -implicitDefEqProofs
  refine callQ_of (hM (rollOn w.rollout) _ _ (world_roll hsz)) ?_
  simp -implicitDefEqProofs [isBounded]
end Go.Eng.T

namespace Go.Eng.T

theorem nums_push : ∀ (n : Nat) (k : Int), nums n k ++ [k + n] = nums (n + 1) k
  | 0, k => by simp [nums]
  | n + 1, k => by
    have := nums_push n (k + 1)
    simp only [nums, List.cons_append]
    rw [show k + ((n + 1 : Nat) : Int) = k + 1 + (n : Int) by omega, this]
    rfl
theorem numsJ_set {xs : List Int} {k : Int} {j : Nat} (h : j < xs.length) : (nums j k ++ xs.drop j).set j (k + j) = nums (j + 1) k ++ xs.drop (j + 1) := by
  rw [List.set_append_right _ _ (by simp), nums_len, Nat.sub_self, List.drop_eq_getElem_cons h, List.set_cons_zero, ← nums_push, List.append_assoc]
  rfl

abbrev markIntSS (R : Rel) : Prop := ∀ (xs : List Int) (k : Int), 0 ≤ k → k + xs.length ≤ 4611686018427387904 → R [.arr 0, I k] [.arr 1 0 xs.length (ints xs)] (I (k + xs.length)) [.arr 1 0 xs.length (ints (nums xs.length k))]
abbrev heldIntSS (R : Rel) : Prop := ∀ (n : Nat) (k : Int), 0 ≤ k → k + n ≤ 4611686018427387904 → R [.sl 1 1 n (ints (nums n k)), I k] [] (I (k + n)) []
end Go.Eng.T

namespace Go.Eng.T
abbrev markBoxSS (R : Rel) : Prop := ∀ (xs : List Box) (k : Int), 0 ≤ k → k + mcL mcBox xs ≤ 4611686018427387904 → R [.arr 0, I k] [.arr 4 0 xs.length (xs.flatMap eBox)] (I (k + mcL mcBox xs)) [.arr 4 0 xs.length ((mkL mcBox mkBox xs k).flatMap eBox)]
abbrev heldBoxSS (R : Rel) : Prop := ∀ (xs : List Box) (k : Int), 0 ≤ k → k + mcL mcBox xs ≤ 4611686018427387904 → R [.sl 1 4 xs.length ((mkL mcBox mkBox xs k).flatMap eBox), I k] [] (I (k + mcL mcBox xs)) []
abbrev markEndpointSS (R : Rel) : Prop := ∀ (xs : List Endpoint) (k : Int), 0 ≤ k → k + mcL mcEndpoint xs ≤ 4611686018427387904 → R [.arr 0, I k] [.arr 4 0 xs.length (xs.flatMap eEndpoint)] (I (k + mcL mcEndpoint xs)) [.arr 4 0 xs.length ((mkL mcEndpoint mkEndpoint xs k).flatMap eEndpoint)]
abbrev heldEndpointSS (R : Rel) : Prop := ∀ (xs : List Endpoint) (k : Int), 0 ≤ k → k + mcL mcEndpoint xs ≤ 4611686018427387904 → R [.sl 1 4 xs.length ((mkL mcEndpoint mkEndpoint xs k).flatMap eEndpoint), I k] [] (I (k + mcL mcEndpoint xs)) []
end Go.Eng.T

namespace Go.Eng.T
set_option maxRecDepth 20000
abbrev markDialedSS (R : Rel) : Prop := ∀ (xs : List Dialed) (k : Int), 0 ≤ k → k + mcL mcDialed xs ≤ 4611686018427387904 → R [.arr 0, I k] [.arr 5 0 xs.length (xs.flatMap eDialed)] (I (k + mcL mcDialed xs)) [.arr 5 0 xs.length ((mkL mcDialed mkDialed xs k).flatMap eDialed)]
abbrev heldDialedSS (R : Rel) : Prop := ∀ (xs : List Dialed) (k : Int), 0 ≤ k → k + mcL mcDialed xs ≤ 4611686018427387904 → R [.sl 1 5 xs.length ((mkL mcDialed mkDialed xs k).flatMap eDialed), I k] [] (I (k + mcL mcDialed xs)) []
abbrev markLoggedSS (R : Rel) : Prop := ∀ (xs : List Logged) (k : Int), 0 ≤ k → k + mcL mcLogged xs ≤ 4611686018427387904 → R [.arr 0, I k] [.arr 8 0 xs.length (xs.flatMap eLogged)] (I (k + mcL mcLogged xs)) [.arr 8 0 xs.length ((mkL mcLogged mkLogged xs k).flatMap eLogged)]
abbrev heldLoggedSS (R : Rel) : Prop := ∀ (xs : List Logged) (k : Int), 0 ≤ k → k + mcL mcLogged xs ≤ 4611686018427387904 → R [.sl 1 8 xs.length ((mkL mcLogged mkLogged xs k).flatMap eLogged), I k] [] (I (k + mcL mcLogged xs)) []
end Go.Eng.T

namespace Go.Eng.T
set_option maxRecDepth 20000
abbrev markRolloutS (R : Rel) : Prop := ∀ (x : Rollout) (k : Int), 0 ≤ k → k + mcRollout x ≤ 4611686018427387904 → R [.agg [.sc (.int .i64 x.version), .arr 0, .sc (.int .i64 x.pos), .sc (.bool x.off)], I k] [.arr 1 0 x.stages.length (ints (x.stages))] (I (k + mcRollout x)) [.arr 1 0 x.stages.length (ints ((mkRollout x k).stages))]
abbrev heldRolloutS (R : Rel) : Prop := ∀ (x : Rollout) (k : Int), 0 ≤ k → k + mcRollout x ≤ 4611686018427387904 → R [arg (eRollout (mkRollout x k)), I k] [] (I (k + mcRollout x)) []
abbrev markWorldS (R : Rel) : Prop := ∀ (x : World) (k : Int), 0 ≤ k → k + mcWorld x ≤ 4611686018427387904 → R [.agg [.arr 0, .arr 1, .sc (.int .i64 x.key), .arr 2, .sc (.int .i64 x.rollout.version), .arr 3, .sc (.int .i64 x.rollout.pos), .sc (.bool x.rollout.off), .sc (.int .i64 x.least), .sc (.int .i64 x.percent), .arr 4, .arr 5, .sc (.int .i64 x.now), .sc (.int .i64 x.hurt), .sc (.int .i64 x.reached)], I k] [.arr 1 0 x.server.length (ints (x.server)), .arr 1 0 x.tags.length (ints (x.tags)), .arr 4 0 x.ends.length ((x.ends).flatMap eEndpoint), .arr 1 0 x.rollout.stages.length (ints (x.rollout.stages)), .arr 5 0 x.stage.length ((x.stage).flatMap eDialed), .arr 8 0 x.log.length ((x.log).flatMap eLogged)] (I (k + mcWorld x)) [.arr 1 0 x.server.length (ints ((mkWorld x k).server)), .arr 1 0 x.tags.length (ints ((mkWorld x k).tags)), .arr 4 0 x.ends.length (((mkWorld x k).ends).flatMap eEndpoint), .arr 1 0 x.rollout.stages.length (ints ((mkWorld x k).rollout.stages)), .arr 5 0 x.stage.length (((mkWorld x k).stage).flatMap eDialed), .arr 8 0 x.log.length (((mkWorld x k).log).flatMap eLogged)]
abbrev heldWorldS (R : Rel) : Prop := ∀ (x : World) (k : Int), 0 ≤ k → k + mcWorld x ≤ 4611686018427387904 → R [arg (eWorld (mkWorld x k)), I k] [] (I (k + mcWorld x)) []
end Go.Eng.T

namespace Go.Eng.T
end Go.Eng.T

namespace Go.Eng.T
set_option maxRecDepth 20000

theorem world_stup {w : World} (h : szWorld w ≤ 4194304) : ∀ (j : Nat) (hj : j < w.stage.length), w.stage[j].up.length ≤ maxLen := by
  intro j hj
  have := size_at (f := szDialed) hj
  unfold szWorld at h
  have e : szDialed w.stage[j] = szDeal w.stage[j].deal + w.stage[j].up.length := rfl
  unfold maxLen; omega
def signalNow (w : World) : Int := signalOf (cntF (goodD w.rollout.version) w.stage) (cntF (badD w.rollout.version) w.stage) w.least w.percent
abbrev SignalNowS (R : Rel) : Prop := ∀ w : World, szWorld w ≤ 4194304 → R [arg (eWorld w)] [] (I (signalNow w)) []
end Go.Eng.T

namespace Go.Eng.T
set_option maxRecDepth 20000
set_option maxHeartbeats 2000000
def canNext (r : Rollout) : Bool := isRollout r && (!r.off && !decide (r.pos = (r.stages.length : Int) - 1))
def nextStage (r : Rollout) : Rollout × Bool := if canNext r = true then (⟨r.version, r.stages, r.pos + 1, r.off⟩, true) else (r, false)
abbrev NextStageS (R : Rel) : Prop := ∀ r : Rollout, szRollout r ≤ 4194304 → R [arg (eRollout r)] [] (.tup [.agg (eRollout (nextStage r).1), B (nextStage r).2]) []
def canBack (r : Rollout) : Bool := isRollout r && !r.off
def backStage (r : Rollout) : Rollout × Bool := if canBack r = true then (⟨r.version, r.stages, 0, true⟩, true) else (r, false)
abbrev BackStageS (R : Rel) : Prop := ∀ r : Rollout, szRollout r ≤ 4194304 → R [arg (eRollout r)] [] (.tup [.agg (eRollout (backStage r).1), B (backStage r).2]) []
def canAdd (l : List Int) (v : Int) : Bool := areVers l && (decide (InV v 1 9) && !decide (v ∈ l))
def addV (l : List Int) (v : Int) : List Int × Bool := if canAdd l v = true then (putV l v, true) else (l, false)
abbrev AddVersionS (R : Rel) : Prop := ∀ (l : List Int) (v : Int), l.length ≤ 4194304 → R [.sl 1 1 l.length (ints l), I v] [] (.tup [.sl 0 1 (addV l v).1.length (ints (addV l v).1), B (addV l v).2]) []
theorem up9 : ∀ {l : List Int} {a : Int}, Up l → (∀ x, x ∈ l → a < x ∧ x ≤ 9) → (l.length : Int) ≤ 9 - a ∨ l = []
  | [], _, _, _ => .inr rfl
  | x :: r, a, h, hb => by
    rw [Up, List.pairwise_cons] at h
    have h0 := hb x (by simp)
    have := up9 (l := r) (a := x) h.2 (fun y hy => ⟨h.1 y hy, (hb y (by simp [hy])).2⟩)
    left
    rcases this with h1 | rfl
    · simp only [List.length_cons]; omega
    · simp; omega
theorem vers_le9 {l : List Int} (h : areVers l = true) : l.length ≤ 9 := by
  have := up9 (l := l) (a := 0) (vers_pair h) (fun x hx => by have := vers_in h x hx; exact ⟨by omega, by omega⟩)
  rcases this with h1 | rfl
  · omega
  · simp
theorem up_le {l : List Int} (h : Up l) : l.Pairwise (· ≤ ·) := List.Pairwise.imp (fun h => by omega) h
theorem le_ext : ∀ {a b : List Int}, a.Pairwise (· ≤ ·) → b.Pairwise (· ≤ ·) → a.Perm b → a = b := fun ha hb h => List.Perm.eq_of_pairwise (le := fun x y : Int => x ≤ y) (fun a b _ _ h1 h2 => by omega) ha hb h
theorem sort_put {l : List Int} {v : Int} (h : areVers l = true) (hv : ¬ v ∈ l) : sortI (l ++ [v]) = putV l v := by
  have hup : Up l := vers_pair h
  refine le_ext (sortI_up _) (up_le (putV_up v hup)) ?_
  refine (List.mergeSort_perm _ _).trans ?_
  unfold putV
  rw [if_neg (fun e => hv (List.mem_of_getElem? e))]
  unfold insV
  have e : l = l.take (posV l v) ++ l.drop (posV l v) := (List.take_append_drop _ _).symm
  conv => lhs; rw [e]
  rw [List.append_assoc]
  exact List.Perm.append_left _ (List.perm_append_comm (l₁ := l.drop (posV l v)) (l₂ := [v]))
def stepRevive (w : World) (v : Int) : World × Bool := ({ w with server := (addV w.server v).1 }, (addV w.server v).2)
abbrev StepReviveS (R : Rel) : Prop := ∀ (w : World) (v : Int), szWorld w ≤ 4194304 → R [arg (eWorld w), I v] [] (.tup [.agg (eWorld (stepRevive w v).1), B (stepRevive w v).2]) []
theorem addV_no {l : List Int} {v : Int} (h : (addV l v).2 = false) : (addV l v).1 = l := by
  unfold addV at *
  split at h
  · cases h
  · rename_i hc; rw [if_neg hc]
theorem addV_len (l : List Int) (v : Int) : (addV l v).1.length ≤ l.length + 1 := by
  unfold addV
  split
  · exact putV_len l v
  · dsimp only; omega
theorem stepRevive_sz (w : World) (v : Int) : szWorld (stepRevive w v).1 ≤ szWorld w + 1 := by
  have := addV_len w.server v
  simp only [stepRevive, szWorld]
  omega
end Go.Eng.T

namespace Go.Eng.T
set_option maxRecDepth 20000
set_option maxHeartbeats 4000000
def withRoll (w : World) (r : Rollout) : World := { w with rollout := r }
def stepStage (w : World) : World × Bool :=
  if w.reached = 0 then (w, false)
  else if signalNow w = 1 then (if (nextStage w.rollout).2 = true then (enter (withRoll w (nextStage w.rollout).1), true) else (w, false))
  else if signalNow w = 2 then (if (backStage w.rollout).2 = true then (leave (withRoll w (backStage w.rollout).1), true) else (w, false))
  else (w, false)
abbrev StepStageS (R : Rel) : Prop := ∀ w : World, szWorld w ≤ 4194304 → R [arg (eWorld w)] [] (.tup [.agg (eWorld (stepStage w).1), B (stepStage w).2]) []
theorem next_sz (r : Rollout) : szRollout (nextStage r).1 = szRollout r := by unfold nextStage; split <;> rfl
theorem back_sz (r : Rollout) : szRollout (backStage r).1 = szRollout r := by unfold backStage; split <;> rfl
theorem back_ver (r : Rollout) : (backStage r).1.version = r.version := by unfold backStage; split <;> rfl
theorem withRoll_sz {w : World} {r : Rollout} (h : szRollout r = szRollout w.rollout) : szWorld (withRoll w r) = szWorld w := by simp only [szWorld, withRoll, h]
theorem leave_roll {w : World} {r : Rollout} (h : r.version = w.rollout.version) : leave (withRoll w r) = withRoll (leave w) r := by
  have e : leaveEnd (withRoll w r) = leaveEnd w := by
    funext x
    unfold leaveEnd withRoll
    rw [h]
  unfold leave
  rw [e]
  rfl
theorem stepStage_sz (w : World) : szWorld (stepStage w).1 ≤ szWorld w + w.ends.length := by
  unfold stepStage
  split
  · dsimp only; omega
  · split
    · split
      · have h1 := enter_sz (withRoll w (nextStage w.rollout).1)
        rw [withRoll_sz (next_sz _)] at h1
        exact h1
      · dsimp only; omega
    · split
      · split
        · have h1 := leave_sz (withRoll w (backStage w.rollout).1)
          rw [withRoll_sz (back_sz _)] at h1
          dsimp only
          omega
        · dsimp only; omega
      · dsimp only; omega
end Go.Eng.T

namespace Go.Eng.T
set_option maxRecDepth 20000
set_option maxHeartbeats 2000000
abbrev FnExactEnterStageS (R : Rel) : Prop := ∀ (aW : World), lnWorld aW → rgWorld aW → R [arg (eWorld aW)] [] (B true) []
abbrev FnExactHurtEndsS (R : Rel) : Prop := ∀ (aW : World), lnWorld aW → rgWorld aW → R [arg (eWorld aW)] [] (B true) []
abbrev FnExactStepStartS (R : Rel) : Prop := ∀ (aW : World), lnWorld aW → rgWorld aW → R [arg (eWorld aW)] [] (B true) []
abbrev FnExactIsBoundedS (R : Rel) : Prop := ∀ (aW : World), lnWorld aW → rgWorld aW → R [arg (eWorld aW)] [] (B true) []
theorem FnExactIsBounded_b (D : Dn) (hs : IsBoundedS (D gspec_IsBounded)) (hi : IsBoundedS (D gimpl_IsBounded)) (hszWorld : szWorldS (D glaws_szWorld)) (htoWorld : toWorldS (D glaws_toWorld)) (heqWorld : eqWorldS (D glaws_eqWorld)) : FnExactIsBoundedS (Body D slaws_FnExactIsBounded) := by
  intro aW l_aW w_aW
  simp -implicitDefEqProofs []
  refine callQ_of (hszWorld aW ((1048576 : Int)) (by omega) (by omega) l_aW) ?_
  by_cases g1 : (1048576 : Int) < ((szWorld aW : Nat) : Int)
  · simp -implicitDefEqProofs [szl_lt g1]
  have p1 : ¬ (1048576 : Int) - ((szWorld aW : Nat) : Int) < 0 := by omega
  simp -implicitDefEqProofs [szl_ge g1, p1]
  have hs' := hs aW (by omega)
  have hi' := hi aW (by omega)
  refine callQ_of (htoWorld aW (by omega)) ?_
  simp -implicitDefEqProofs [szl_ge g1, p1]
  refine callQ_of (hs') ?_
  simp -implicitDefEqProofs [szl_ge g1, p1]
  refine callQ_of (htoWorld aW (by omega)) ?_
  simp -implicitDefEqProofs [szl_ge g1, p1]
  refine callQ_of (hi') ?_
  simp -implicitDefEqProofs [szl_ge g1, p1]
  refine callQ_of (htoWorld aW (by omega)) ?_
  simp -implicitDefEqProofs [szl_ge g1, p1]
  refine callQ_of (heqWorld aW aW (by omega) (by omega)) ?_
  simp -implicitDefEqProofs [szl_ge g1, p1]
abbrev FnExactStepReviveS (R : Rel) : Prop := ∀ (aW : World) (aV : Int), lnWorld aW → rgWorld aW → rgI aV → R [arg (eWorld aW), I aV] [] (B true) []
abbrev FnExactStepStageS (R : Rel) : Prop := ∀ (aW : World), lnWorld aW → rgWorld aW → R [arg (eWorld aW)] [] (B true) []
end Go.Eng.T

namespace Go.Eng
open Go.Lib Go.RowKit

/-- what is read only -/
inductive RdArgs (fid : Nat → Option FuncId) (w : World) : List V → List Value → Prop where
  | nil : RdArgs fid w [] []
  | sc {v : Value} {azs : List V} {xs : List Value} (h : RdArgs fid w azs xs) : RdArgs fid w (.sc v :: azs) (v :: xs)
  | sl {e len : Nat} {cells : List V} {x : Value} {azs : List V} {xs : List Value} (h1 : Rd fid w (· < w.heap.size) (.sl 1 e len cells) x) (h : RdArgs fid w azs xs) : RdArgs fid w (.sl 1 e len cells :: azs) (x :: xs)

def plainA : V → Prop
  | .sc _ => True
  | .sl 1 _ _ _ => True
  | _ => False

theorem rdArgs_of {F : Fr} {w : World} {β : Nat → Base} {own : Nat → Option (Nat × List Nat)} {H : Hp} (hw : w = F.w0) : ∀ {azs : List V} {xs : List Value}, (∀ a, a ∈ azs → plainA a) → Pw (VR F β own H w) azs xs → RdArgs F.fid w azs xs
  | [], xs, _, h => by rw [h.unnil]; exact .nil
  | a :: azs, xs, hp, h => by
    obtain ⟨x, r, rfl, h1, h2⟩ := h.uncons
    have ih := rdArgs_of hw (fun a ha => hp a (List.mem_cons_of_mem _ ha)) h2
    have ha := hp a (by simp)
    cases h1 with
    | sc h => exact .sc ih
    | @rd fl e len cells _ h3 h =>
      match fl, ha, h with
      | 1, _, h => exact .sl (Rd.move h (fun b hb => by rw [hw]; exact hb.1) (fun _ _ => rfl)) ih
    | _ => exact absurd ha (by simp [plainA])

theorem den_read {P : Program} {fid : Nat → Option FuncId} {G : Gl} {g : Nat} {args : List V} {v : Value} (hv : v.oneCell' = true) (hp' : ∀ a, a ∈ args → plainA a)
    (h : ∀ id, fid g = some id → ∀ w : World, (∀ b, G b → b < w.heap.size ∧ w.heap[b]? = G.is b) → ∀ xs, RdArgs fid w args xs → Calls P id xs.toArray w fun e w' => e = .returned v ∧ Below w.heap.size w w') : Den P fid G g args [] (.sc v) [] := by
  intro id hid F hF hG hb ht hn inv xs hx
  have hr := rdArgs_of (F := F) rfl hp' hx
  rw [hF] at hr
  refine (h id hid F.w0 (fun b hb => ?_) xs hr).mono fun e w' ⟨he, hw⟩ => ?_
  · have := inv.glob b (by rw [hG]; exact hb)
    exact ⟨this.1, by rw [← hG]; exact this.2.2⟩
  · subst he
    refine ⟨F.own0, ⟨hw.size, hw.os, hw.tape, hw.output, fun b hb _ => hw.block b hb, fun b p hb => ⟨Nat.lt_of_lt_of_le (inv.ownb b p hb).1 hw.size, fun _ => ?_⟩, .sc hv, hn.symm, fun i o hi => ?_⟩⟩
    · rw [hb]; simp
    · simp at hi

theorem below_grow {w : World} {k : Nat} {os : Array Obj} : Below w.heap.size w (Sort.grow (w.drewN k) os) :=
  ⟨rfl, rfl, rfl, by simp [Sort.grow, World.drewN], fun b hb => by simp [Sort.grow, World.drewN, Array.getElem?_append, hb]⟩

/-- a table that nobody writes reads azs it did -/
theorem tab_same {P : Program} {W w : World} {name : String} {k : IntKind} {zs : List Int} {b : Nat} (hg : P.globalNamed name = some b) (h : TabIs P W name k zs) (he : w.heap[b]? = W.heap[b]?) : TabIs P w name k zs := by
  unfold TabIs World.var? at *
  rw [hg] at h ⊢
  simp only [Option.bind_some] at h ⊢
  rw [he]
  exact h
theorem tab_of_laid {P : Program} {W : World} {name : String} {k : IntKind} {zs : List Int} {rest : List (String × DataW Unit)} {g : Nat} {t e : TypeId} {n : Nat} {ps : List MemPlace}
    (hg : P.globalNamed name = some g) (hty : (P.globals[g]?).map (·.type) = some t) (ht : P.underlying t = some (.array n e)) (he : P.underlying e = some (.int k)) (hce : P.cellsOf e = 1) (hct : P.cellsOf t = n)
    (h : DataW.LaidVars P W ((name, tabData k zs) :: rest) ps) : TabIs P W name k zs := by
  obtain ⟨g', t', cs, fuel, p, q, hg', ht', hvar, hd, _, _⟩ := h
  obtain rfl := Option.some.inj (hg.symm.trans hg')
  obtain rfl := Option.some.inj (hty.symm.trans ht')
  unfold TabIs
  rw [hvar, ← cells_of_tab ht he hce hct hd]
theorem laid_tail {P : Program} {W : World} {x : String × DataW Unit} {rest : List (String × DataW Unit)} {ps : List MemPlace} (h : DataW.LaidVars P W (x :: rest) ps) : ∃ q, DataW.LaidVars P W rest q := by
  obtain ⟨g', t', cs, fuel, p, q, hg', ht', hvar, hd, hr, _⟩ := h
  exact ⟨q, hr⟩
theorem tab_third {P : Program} {W : World} {name : String} {k : IntKind} {zs : List Int} {a b : String × DataW Unit} {rest : List (String × DataW Unit)} {g : Nat} {t e : TypeId} {n : Nat}
    (hg : P.globalNamed name = some g) (hty : (P.globals[g]?).map (·.type) = some t) (ht : P.underlying t = some (.array n e)) (he : P.underlying e = some (.int k)) (hce : P.cellsOf e = 1) (hct : P.cellsOf t = n)
    (h : laidMet P (a :: b :: (name, tabData k zs) :: rest) W) : TabIs P W name k zs := by
  obtain ⟨ps, h1, _⟩ := h
  obtain ⟨q1, h2⟩ := laid_tail h1
  obtain ⟨q2, h3⟩ := laid_tail h2
  exact tab_of_laid hg hty ht he hce hct h3
theorem tab_size {P : Program} {W : World} {name : String} {k : IntKind} {zs : List Int} {b : Nat} (hg : P.globalNamed name = some b) (h : TabIs P W name k zs) : b < W.heap.size := by
  unfold TabIs World.var? at h
  rw [hg] at h
  simp only [Option.bind_some] at h
  by_cases hb : b < W.heap.size
  · exact hb
  · rw [Array.getElem?_eq_none (by omega)] at h; cases h
end Go.Eng

namespace Go.Eng
open Go.Lib Go.RowKit Go.Sort

def iv (l : List Int) : List Value := l.map (Value.int .i64)
@[simp] theorem iv_len (l : List Int) : (iv l).length = l.length := by simp [iv]
theorem iv_ones (l : List Int) : Ones (iv l) := by
  intro v hv
  simp only [iv, List.mem_map] at hv
  obtain ⟨x, _, rfl⟩ := hv
  rfl

/-- what is as it was beside what is owned -/
structure Kept (F : Fr) (w' : World) : Prop where
  size : F.w0.heap.size ≤ w'.heap.size
  os : w'.os = F.w0.os
  tape : w'.tape = F.w0.tape
  output : w'.output = F.w0.output
  keep : ∀ b, b < F.w0.heap.size → F.own0 b = none → w'.heap[b]? = F.w0.heap[b]?

theorem Kept.refl (F : Fr) : Kept F F.w0 := ⟨Nat.le_refl _, rfl, rfl, rfl, fun _ _ _ => rfl⟩

/-- an array of numbers that is handed over -/
theorem own_ints {F : Fr} {given : List O} {k : Nat} {l : List Int} {x : Value} (inv : Inv F F.β0 F.own0 (hp given) F.w0) (hk : hp given k = .arr 1 0 l.length (T.ints l)) (h : VR F F.β0 F.own0 (hp given) F.w0 (.arr k) x) :
    ∃ a cap, x = .slice a l.length cap ∧ (l.length ≤ cap ∧ cap ≤ 9223372036854775807) ∧ a = (F.β0 k).a ∧ cap = (F.β0 k).cap ∧ (cap = 0 ∨ ∃ b o, a = some ⟨b, o, none⟩ ∧ F.own0 b = some (k, []) ∧ Has F.w0 b o (iv l) cap) := by
  have ho := inv.objs k
  rw [hk] at ho
  obtain ⟨vs, h1, h2, h3, h4, h5⟩ := ho
  have hv : vs = iv l := by
    apply List.ext_getElem?
    intro i
    by_cases hi : i < l.length
    · have hlen : vs.length = l.length := by rw [h1]; simp
      have e1 : vs[i]? = some (vs[i]'(by omega)) := by simp [hlen, hi]
      have := h5 i (.sc (.int .i64 l[i])) _ (by simp [hi]) e1
      rw [e1]
      generalize vs[i]'(by omega) = y at this
      cases this with
      | sc _ => simp [iv, hi]
    · rw [List.getElem?_eq_none (by rw [h1]; simp; omega), List.getElem?_eq_none (by simp; omega)]
  subst hv
  cases h with
  | @arr _ e t len cs he =>
    rw [hk] at he
    simp only [arrOf, Option.some.injEq, Prod.mk.injEq] at he
    obtain ⟨rfl, rfl, rfl, rfl⟩ := he
    refine ⟨_, _, rfl, h3, rfl, rfl, ?_⟩
    rcases h4 with h4 | ⟨b, o, h4, h6, h7⟩
    · exact .inl (by omega)
    · exact .inr ⟨b, o, h4, h6, by rw [Nat.mul_one] at h7; exact h7⟩
  | goneA hd => rw [hk] at hd; cases hd

theorem den_slice {P : Program} {fid : Nat → Option FuncId} {G : Gl} {g : Nat} {args : List V} {given : List O} {l' : List Int}
    (h : ∀ id, fid g = some id → ∀ F : Fr, F.fid = fid → Inv F F.β0 F.own0 (hp given) F.w0 → ∀ xs, Pw (VR F F.β0 F.own0 (hp given) F.w0) args xs →
      Calls P id xs.toArray F.w0 fun e w' => ∃ a cap, e = .returned (.slice a l'.length cap) ∧ (l'.length ≤ cap ∧ cap ≤ 9223372036854775807) ∧ (cap = 0 ∨ ∃ b o, a = some ⟨b, o, none⟩ ∧ Has w' b o (iv l') cap ∧ (b < F.w0.heap.size → F.own0 b ≠ none)) ∧ Kept F w') :
    Den P fid G g args given (.sl 0 1 l'.length (T.ints l')) (given.map fun _ => .dead) := by
  intro id hid F hF hG hb ht hn inv xs hx
  refine (h id hid F hF inv xs hx).mono fun e w' ⟨a, cap, he, hl, hm, hk⟩ => ?_
  subst he
  have hcs : ∀ own (i : Nat) (v : V) (x : Value), (T.ints l')[i]? = some v → (iv l')[i]? = some x → Ow F.fid w' own (fun _ b => F.G b) 0 F.ngiven ([] ++ [i]) v x := by
    intro own i v x h1 h2
    by_cases hi : i < l'.length
    · rw [T.ints_at hi] at h1
      simp only [iv, List.getElem?_map, hi, List.getElem?_eq_getElem, Option.map_some, Option.some.injEq] at h1 h2
      subst h1 h2
      exact .sc rfl
    · rw [List.getElem?_eq_none (by simp; omega)] at h1; cases h1
  rcases hm with hm | ⟨b, o, rfl, hhas, hown⟩
  · refine ⟨fun _ => none, ⟨hk.size, hk.os, hk.tape, hk.output, hk.keep, fun b p h => (by cases h), .own hl (by simp) (by simp) (.inl (by omega)) (hcs _), by simp [hn], fun i o hi => ?_⟩⟩
    simp only [List.getElem?_map, Option.map_eq_some_iff] at hi
    obtain ⟨_, _, rfl⟩ := hi
    trivial
  · refine ⟨fun b' => if b' = b then some (F.ngiven, []) else none, ⟨hk.size, hk.os, hk.tape, hk.output, hk.keep, fun b' p h => ?_, .own hl (by simp) (by simp) (.inr ⟨b, o, rfl, if_pos rfl, by rw [Nat.mul_one]; exact hhas⟩) (hcs _), by simp [hn], fun i o' hi => ?_⟩⟩
    · by_cases e : b' = b
      · subst e; exact ⟨has_lt hhas, hown⟩
      · rw [if_neg e] at h; cases h
    · simp only [List.getElem?_map, Option.map_eq_some_iff] at hi
      obtain ⟨_, _, rfl⟩ := hi
      trivial

/-- the array written over in place -/
theorem den_write {P : Program} {fid : Nat → Option FuncId} {G : Gl} {g : Nat} {l l' : List Int} (hll : l'.length = l.length)
    (h : ∀ id, fid g = some id → ∀ F : Fr, F.fid = fid → Inv F F.β0 F.own0 (hp [.arr 1 0 l.length (T.ints l)]) F.w0 → ∀ a cap, l.length ≤ cap → (cap = 0 ∨ ∃ b o, a = some ⟨b, o, none⟩ ∧ F.own0 b = some (0, []) ∧ Has F.w0 b o (iv l) cap) →
      Calls P id #[.slice a l.length cap] F.w0 fun e w' => e = .returned (.tuple #[]) ∧ (cap = 0 ∨ ∃ b o, a = some ⟨b, o, none⟩ ∧ Has w' b o (iv l') cap) ∧ Kept F w') :
    Den P fid G g [.arr 0] [.arr 1 0 l.length (T.ints l)] (.tup []) [.arr 1 0 l.length (T.ints l')] := by
  intro id hid F hF hG hb ht hn inv xs hx
  obtain ⟨x, r, rfl, h1, h2⟩ := hx.uncons
  obtain rfl := h2.unnil
  obtain ⟨a, cap, rfl, hl, ha, hc, hm⟩ := own_ints inv rfl h1
  refine (h id hid F hF inv a cap hl.1 hm).mono fun e w' ⟨he, hm', hk⟩ => ?_
  subst he
  refine ⟨F.own0, ⟨hk.size, hk.os, hk.tape, hk.output, hk.keep, fun b p h => ⟨Nat.lt_of_lt_of_le (inv.ownb b p h).1 hk.size, fun _ => by rw [h]; simp⟩, .tup (vs := []) rfl (fun i v x h _ => by simp at h), by rw [hn]; rfl, fun i o hi => ?_⟩⟩
  match i, hi with
  | 0, hi =>
    simp only [List.getElem?_cons_zero, Option.some.injEq] at hi
    subst hi
    refine ⟨rfl, iv l', by simp, by simp [hll], by rw [← hc]; exact hl, ?_, ?_⟩
    · rcases hm with hm | ⟨b, o, e1, e2, e3⟩
      · exact .inl (by rw [← hc, hm])
      · rcases hm' with hm' | ⟨b', o', e1', e2'⟩
        · exact .inl (by rw [← hc, hm'])
        · rw [e1] at e1'
          cases e1'
          exact .inr ⟨b, o, by rw [← ha, e1], e2, by rw [← hc, Nat.mul_one]; exact e2'⟩
    · intro i v x h1 h2
      by_cases hi : i < l'.length
      · rw [T.ints_at hi] at h1
        simp only [iv, List.getElem?_map, hi, List.getElem?_eq_getElem, Option.map_some, Option.some.injEq] at h1 h2
        subst h1 h2
        exact .sc rfl
      · rw [List.getElem?_eq_none (by simp; omega)] at h1; cases h1
  | i + 1, hi => simp at hi
end Go.Eng

namespace Go.Eng
open Go.Lib Go.RowKit Go.Sort

theorem map_at (w : World) (b : Nat) (f : Array Value → Array Value) : (mapBlock w b f).heap[b]? = (w.heap[b]?).map (onCells f) := by
  simp [mapBlock, Array.getElem?_modify]
theorem map_off (w : World) {b k : Nat} (f : Array Value → Array Value) (h : k ≠ b) : (mapBlock w b f).heap[k]? = w.heap[k]? := by
  simp [mapBlock, Array.getElem?_modify, Ne.symm h]
theorem map_size (w : World) (b : Nat) (f : Array Value → Array Value) : (mapBlock w b f).heap.size = w.heap.size := by simp [mapBlock]

theorem has_map {w w' : World} {b o n : Nat} {vs vs' : List Value} {f : Array Value → Array Value} (h : Has w b o vs n) (hw : w'.heap[b]? = (w.heap[b]?).map (onCells f)) (hs : ∀ c, (f c).size = c.size)
    (hf : ∀ c : Array Value, o + n ≤ c.size → (∀ i, i < vs.length → c[o + i]? = vs[i]?) → ∀ i, i < vs'.length → (f c)[o + i]? = vs'[i]?) (ho : Ones vs') (hl : vs'.length ≤ n) : Has w' b o vs' n := by
  obtain ⟨_, c, et, hb, h2, h3, h4⟩ := h
  exact ⟨ho, f c, et, by rw [hw, hb]; rfl, by rw [hs]; exact h2, hl, hf c h2 h4⟩

theorem has_holds {w : World} {b o n : Nat} {l : List Int} (h : Has w b o (iv l) n) : Holds (Value.int .i64) w b o l.toArray := by
  intro j hj
  simp only [List.size_toArray] at hj
  have hr := (has_reads h).2 j (by simpa using hj)
  obtain ⟨_, c, et, hb, _, _, _⟩ := h
  refine ⟨?_, ?_⟩
  · rw [hr]
    simp [iv, hj]
  · unfold World.frozen?
    simp only [hb]
    simp

theorem putCells_size {α : Type} [Inhabited α] (enc : α → Value) (o : Nat) (d : Array α) (c : Array Value) : (putCells enc o d c).size = c.size := by simp [putCells]
theorem putCells_at (l : List Int) (o : Nat) (c : Array Value) {i : Nat} (hi : i < l.length) (hc : o + i < c.size) : (putCells (Value.int .i64) o l.toArray c)[o + i]? = (iv l)[i]? := by
  simp only [putCells, Array.getElem?_mapIdx, Array.getElem?_eq_getElem hc, Option.map_some]
  rw [if_pos ⟨by omega, by simp; omega⟩]
  simp [iv, hi]

def sortL (l : List Int) : List Int := l.mergeSort fun x y => decide (x ≤ y)
theorem sortL_len (l : List Int) : (sortL l).length = l.length := by simp [sortL]

theorem sort_den {P : Program} {fid : Nat → Option FuncId} {G : Gl} {g k : Nat} (hid : fid g = some k)
    (h0 : ∀ (p : Option Addr) (cap : Nat) (w : World), Calls P k #[.slice p 0 cap] w fun e w' => e = .returned (.tuple #[]) ∧ w' = w)
    (hc : ∀ (blk off cap : Nat) (zs : List Int) (w : World), Holds (Value.int .i64) w blk off zs.toArray → blk < w.heap.size → zs.length < 4611686018427387904 →
      Calls P k #[.slice (some ⟨blk, off, none⟩) zs.length cap] w fun e w' => e = .returned (.tuple #[]) ∧ ∃ n os, w' = grow (putRow (Value.int .i64) (Sort.ahead w n) blk off (zs.mergeSort fun x y => decide (x ≤ y)).toArray) os)
    (l : List Int) (hl : l.length ≤ 4194304) : Den P fid G g [.arr 0] [.arr 1 0 l.length (T.ints l)] (.tup []) [.arr 1 0 l.length (T.ints (sortL l))] := by
  refine den_write (sortL_len l) fun id hi F hF inv a cap hcap hm => ?_
  rw [hid] at hi
  cases hi
  rcases hm with hm | ⟨b, o, rfl, hown, hhas⟩
  · subst hm
    have : l = [] := List.eq_nil_of_length_eq_zero (by omega)
    subst this
    refine (h0 a 0 F.w0).mono fun e w' ⟨he, hw⟩ => ⟨he, .inl rfl, ?_⟩
    rw [hw]; exact Kept.refl F
  · refine (hc b o cap l F.w0 (has_holds hhas) (has_lt hhas) (by omega)).mono fun e w' ⟨he, n, os, hw⟩ => ⟨he, .inr ⟨b, o, rfl, ?_⟩, ?_⟩
    · refine has_map (f := putCells (Value.int .i64) o (sortL l).toArray) hhas ?_ (putCells_size _ _ _) (fun c h1 _ i h2 => ?_) (iv_ones _) (by simp [sortL_len]; exact hcap)
      · have hb := has_lt hhas
        rw [hw]
        simp only [grow, putRow]
        rw [Array.getElem?_append, if_pos (by rw [map_size]; exact hb), map_at]
        rfl
      · simp only [iv_len] at h2
        exact putCells_at (sortL l) o c h2 (by rw [sortL_len] at h2; omega)
    · rw [hw]
      refine ⟨by simp [grow, putRow, map_size, Sort.ahead], rfl, rfl, rfl, fun b' h1 h2 => ?_⟩
      have hne : b' ≠ b := by intro e; rw [e, hown] at h2; cases h2
      simp only [grow, putRow]
      rw [Array.getElem?_append, if_pos (by rw [map_size]; exact h1), map_off _ _ hne]
      rfl

theorem compact_den {P : Program} {fid : Nat → Option FuncId} {G : Gl} {g k : Nat} (hid : fid g = some k)
    (h0 : ∀ (p : Option Addr) (cap : Nat) (w : World), Calls P k #[.slice p 0 cap] w fun e w' => e = .returned (.slice p 0 cap) ∧ w' = w)
    (hc : ∀ (blk off cap : Nat) (zs : List Int) (w : World), Holds (Value.int .i64) w blk off zs.toArray → zs.length ≤ 9223372036854775807 → zs.length ≤ cap →
      Calls P k #[.slice (some ⟨blk, off, none⟩) zs.length cap] w fun e w' => e = .returned (.slice (some ⟨blk, off, none⟩) (compact zs).length cap) ∧ ∃ q, w' = putRow (Value.int .i64) (Sort.ahead w q) blk off (compact zs ++ List.replicate (zs.length - (compact zs).length) 0).toArray)
    (l : List Int) (hl : l.length ≤ 4194304) (hcl : (compact l).length ≤ l.length) : Den P fid G g [.arr 0] [.arr 1 0 l.length (T.ints l)] (.sl 0 1 (compact l).length (T.ints (compact l))) [.dead] := by
  refine den_slice (given := [.arr 1 0 l.length (T.ints l)]) fun id hi F hF inv xs hx => ?_
  rw [hid] at hi
  cases hi
  obtain ⟨x, r, rfl, h1, h2⟩ := hx.uncons
  obtain rfl := h2.unnil
  obtain ⟨a, cap, rfl, hcap, _, _, hm⟩ := own_ints inv rfl h1
  rcases hm with hm | ⟨b, o, rfl, hown, hhas⟩
  · subst hm
    have : l = [] := List.eq_nil_of_length_eq_zero (by omega)
    subst this
    refine (h0 a 0 F.w0).mono fun e w' ⟨he, hw⟩ => ⟨a, 0, he, ⟨Nat.le_refl _, by omega⟩, .inl rfl, ?_⟩
    rw [hw]; exact Kept.refl F
  · refine (hc b o cap l F.w0 (has_holds hhas) (by omega) hcap.1).mono fun e w' ⟨he, q, hw⟩ => ⟨_, cap, he, ⟨by omega, hcap.2⟩, .inr ⟨b, o, rfl, ?_, fun _ => by rw [hown]; simp⟩, ?_⟩
    · refine has_map (f := putCells (Value.int .i64) o (compact l ++ List.replicate (l.length - (compact l).length) 0).toArray) hhas ?_ (putCells_size _ _ _) (fun c h1 _ i h2 => ?_) (iv_ones _) (by simp; omega)
      · rw [hw]
        simp only [putRow]
        rw [map_at]
        rfl
      · simp only [iv_len] at h2
        rw [putCells_at _ o c (by simp; omega) (by omega)]
        simp [iv, List.getElem?_append, h2]
    · rw [hw]
      refine ⟨by simp [putRow, map_size, Sort.ahead], rfl, rfl, rfl, fun b' h1 h2 => ?_⟩
      have hne : b' ≠ b := by intro e; rw [e, hown] at h2; cases h2
      simp only [putRow]
      rw [map_off _ _ hne]
      rfl
end Go.Eng

