/- Own work: part 45 of the proof of FnExactStepStage. -/
import Derived.Test.YtncobgjmochecacGreatP44
set_option linter.unusedSimpArgs false
set_option linter.unusedVariables false
namespace Go.Eng.T
set_option maxRecDepth 20000
abbrev markDialedSS (R : Rel) : Prop := ∀ (xs : List Dialed) (k : Int), 0 ≤ k → k + mcL mcDialed xs ≤ 4611686018427387904 → R [.arr 0, I k] [.arr 5 0 xs.length (xs.flatMap eDialed)] (I (k + mcL mcDialed xs)) [.arr 5 0 xs.length ((mkL mcDialed mkDialed xs k).flatMap eDialed)]
theorem markDialedS_b (D : Dn) (hmarkIntS : markIntSS (D glaws_markIntS)) : markDialedSS (Body D slaws_markDialedS) := by
  intro xs k hk hl
  have hlen : xs.length ≤ mcL mcDialed xs := mcL_ge (fun x => by unfold mcDialed; omega) xs
  simp -implicitDefEqProofs
  refine swp_loop (fun n s => ∃ j o, fd o ∧ j + n = xs.length ∧ s = ⟨[.arr 0, .sc (.int .i64 (k + mcL mcDialed (xs.take j))), .undef, .sc (.int .i64 j), .undef], [.arr 5 0 xs.length ((mkJ mcDialed mkDialed xs k j).flatMap eDialed), o, o]⟩) ?_ xs.length _ ⟨0, .free, fd_free, by simp, by simp [mkJ_zero, mcL]⟩
  intro n s ⟨j, o, ho, hj, hs⟩
  subst hs
  by_cases hjn : j < xs.length
  · have hw : IntKind.i64.wrap ((j : Int) + 1) = (j + 1 : Nat) := by rw [wrap_id (by omega) (by omega)]; simp
    have hjl : j ≤ xs.length := by omega
    have hst := mcL_step (mc := mcDialed) hjn
    have hle := mcL_le (mc := mcDialed) (xs := xs) (j := j + 1)
    have hmc : mcDialed xs[j] = 1 + 1 + xs[j].deal.tags.length + 1 + xs[j].up.length := rfl
    have hset := mkJ_set (mc := mcDialed) (mk := mkDialed) (k := k) hjn
    generalize hK : k + (mcL mcDialed (xs.take j) : Int) = K at hset ⊢
    have hw0 : IntKind.i64.wrap (K + 1) = K + 1 := wrap_id (by omega) (by omega)
    have hw1 : IntKind.i64.wrap (K + 1 + 1) = K + 1 + 1 := wrap_id (by omega) (by omega)
    have hw3 : IntKind.i64.wrap (K + 1 + 1 + ((xs[j].deal.tags.length : Nat) : Int) + 1) = K + 1 + 1 + ((xs[j].deal.tags.length : Nat) : Int) + 1 := wrap_id (by omega) (by omega)
    have hf1 : j * 5 + 1 < xs.length * 5 := by omega
    have hf2 : j * 5 + 2 < xs.length * 5 := by omega
    have hf3 : j * 5 + 3 < xs.length * 5 := by omega
    have hf4 : j * 5 + 4 < xs.length * 5 := by omega
    rcases ho with rfl | rfl
    all_goals simp -implicitDefEqProofs [hjn, hjl, mkJ_get hjn, hw0, hw1, hw3, hf1, hf2, hf3, hf4]
    all_goals refine callQ_of (hmarkIntS xs[j].deal.tags _ (by omega) (by omega)) ?_
    all_goals simp -implicitDefEqProofs [hjn, hjl, mkJ_get hjn, hw0, hw1, hw3, hf1, hf2, hf3, hf4]
    all_goals refine callQ_of (hmarkIntS xs[j].up _ (by omega) (by omega)) ?_
    all_goals simp -implicitDefEqProofs [hjn, hjl, mkJ_get hjn, hw0, hw1, hw3, hf1, hf2, hf3, hf4]
    all_goals exact ⟨n - 1, by omega, j + 1, .dead, fd_dead, by omega, ⟨by first | omega | (rw [wrap_id (by omega) (by omega)]; omega), by simp [hw]⟩, by rw [← hset]; rfl, rfl⟩
  · have hje := mkJ_all (mc := mcDialed) (mk := mkDialed) (xs := xs) (k := k) (j := j) (by omega)
    have hma := mcL_all (mc := mcDialed) (xs := xs) (j := j) (by omega)
    simp -implicitDefEqProofs [hjn, hje, hma, outO]
abbrev heldDialedSS (R : Rel) : Prop := ∀ (xs : List Dialed) (k : Int), 0 ≤ k → k + mcL mcDialed xs ≤ 4611686018427387904 → R [.sl 1 5 xs.length ((mkL mcDialed mkDialed xs k).flatMap eDialed), I k] [] (I (k + mcL mcDialed xs)) []
theorem heldDialedS_b (D : Dn) (hheldIntS : heldIntSS (D glaws_heldIntS)) : heldDialedSS (Body D slaws_heldDialedS) := by
  intro xs k hk hl
  have hlen : xs.length ≤ mcL mcDialed xs := mcL_ge (fun x => by unfold mcDialed; omega) xs
  simp -implicitDefEqProofs
  refine swp_loop (fun n s => ∃ j, j + n = xs.length ∧ s = ⟨[.sl 1 5 xs.length ((mkL mcDialed mkDialed xs k).flatMap eDialed), .sc (.int .i64 (k + mcL mcDialed (xs.take j))), .undef, .sc (.int .i64 j), .undef, .undef, .undef, .undef, .undef, .undef], []⟩) ?_ xs.length _ ⟨0, by simp, by simp [mcL]⟩
  intro n s ⟨j, hj, hs⟩
  subst hs
  by_cases hjn : j < xs.length
  · have hw : IntKind.i64.wrap ((j : Int) + 1) = (j + 1 : Nat) := by rw [wrap_id (by omega) (by omega)]; simp
    have hst := mcL_step (mc := mcDialed) hjn
    have hle := mcL_le (mc := mcDialed) (xs := xs) (j := j + 1)
    have hmc : mcDialed xs[j] = 1 + 1 + xs[j].deal.tags.length + 1 + xs[j].up.length := rfl
    have hY := mkL_get (mc := mcDialed) (mk := mkDialed) xs k j hjn
    generalize hK : k + (mcL mcDialed (xs.take j) : Int) = K at hY ⊢
    have hw0 : IntKind.i64.wrap (K + 1) = K + 1 := wrap_id (by omega) (by omega)
    have hw1 : IntKind.i64.wrap (K + 1 + 1) = K + 1 + 1 := wrap_id (by omega) (by omega)
    have hn2 : ¬ K + 1 + 1 + ((xs[j].deal.tags.length : Nat) : Int) < 0 := by omega
    have hw3 : IntKind.i64.wrap (K + 1 + 1 + ((xs[j].deal.tags.length : Nat) : Int) + 1) = K + 1 + 1 + ((xs[j].deal.tags.length : Nat) : Int) + 1 := wrap_id (by omega) (by omega)
    have hn4 : ¬ K + 1 + 1 + ((xs[j].deal.tags.length : Nat) : Int) + 1 + ((xs[j].up.length : Nat) : Int) < 0 := by omega
    simp -implicitDefEqProofs [hjn, hY, mkDialed, hw0, hw1, hn2, hw3, hn4]
    refine callQ_of (hheldIntS xs[j].deal.tags.length _ (by omega) (by omega)) ?_
    simp -implicitDefEqProofs [hjn, hY, mkDialed, hw0, hw1, hn2, hw3, hn4]
    refine callQ_of (hheldIntS xs[j].up.length _ (by omega) (by omega)) ?_
    simp -implicitDefEqProofs [hjn, hY, mkDialed, hw0, hw1, hn2, hw3, hn4]
    exact ⟨n - 1, by omega, j + 1, by omega, by first | omega | (rw [wrap_id (by omega) (by omega)]; omega), by simp [hw]⟩
  · have hma := mcL_all (mc := mcDialed) (xs := xs) (j := j) (by omega)
    simp -implicitDefEqProofs [hjn, hma]
abbrev markLoggedSS (R : Rel) : Prop := ∀ (xs : List Logged) (k : Int), 0 ≤ k → k + mcL mcLogged xs ≤ 4611686018427387904 → R [.arr 0, I k] [.arr 8 0 xs.length (xs.flatMap eLogged)] (I (k + mcL mcLogged xs)) [.arr 8 0 xs.length ((mkL mcLogged mkLogged xs k).flatMap eLogged)]
theorem markLoggedS_b (D : Dn) (hmarkIntS : markIntSS (D glaws_markIntS)) : markLoggedSS (Body D slaws_markLoggedS) := by
  intro xs k hk hl
  have hlen : xs.length ≤ mcL mcLogged xs := mcL_ge (fun x => by unfold mcLogged; omega) xs
  simp -implicitDefEqProofs
  refine swp_loop (fun n s => ∃ j o, fd o ∧ j + n = xs.length ∧ s = ⟨[.arr 0, .sc (.int .i64 (k + mcL mcLogged (xs.take j))), .undef, .sc (.int .i64 j), .undef], [.arr 8 0 xs.length ((mkJ mcLogged mkLogged xs k j).flatMap eLogged), o, o]⟩) ?_ xs.length _ ⟨0, .free, fd_free, by simp, by simp [mkJ_zero, mcL]⟩
  intro n s ⟨j, o, ho, hj, hs⟩
  subst hs
  by_cases hjn : j < xs.length
  · have hw : IntKind.i64.wrap ((j : Int) + 1) = (j + 1 : Nat) := by rw [wrap_id (by omega) (by omega)]; simp
    have hjl : j ≤ xs.length := by omega
    have hst := mcL_step (mc := mcLogged) hjn
    have hle := mcL_le (mc := mcLogged) (xs := xs) (j := j + 1)
    have hmc : mcLogged xs[j] = 1 + 1 + 1 + 1 + 1 + xs[j].dialed.deal.tags.length + 1 + xs[j].dialed.up.length := rfl
    have hset := mkJ_set (mc := mcLogged) (mk := mkLogged) (k := k) hjn
    generalize hK : k + (mcL mcLogged (xs.take j) : Int) = K at hset ⊢
    have hw0 : IntKind.i64.wrap (K + 1) = K + 1 := wrap_id (by omega) (by omega)
    have hw1 : IntKind.i64.wrap (K + 1 + 1) = K + 1 + 1 := wrap_id (by omega) (by omega)
    have hw2 : IntKind.i64.wrap (K + 1 + 1 + 1) = K + 1 + 1 + 1 := wrap_id (by omega) (by omega)
    have hw3 : IntKind.i64.wrap (K + 1 + 1 + 1 + 1) = K + 1 + 1 + 1 + 1 := wrap_id (by omega) (by omega)
    have hw4 : IntKind.i64.wrap (K + 1 + 1 + 1 + 1 + 1) = K + 1 + 1 + 1 + 1 + 1 := wrap_id (by omega) (by omega)
    have hw6 : IntKind.i64.wrap (K + 1 + 1 + 1 + 1 + 1 + ((xs[j].dialed.deal.tags.length : Nat) : Int) + 1) = K + 1 + 1 + 1 + 1 + 1 + ((xs[j].dialed.deal.tags.length : Nat) : Int) + 1 := wrap_id (by omega) (by omega)
    have hf1 : j * 8 + 1 < xs.length * 8 := by omega
    have hf2 : j * 8 + 2 < xs.length * 8 := by omega
    have hf3 : j * 8 + 3 < xs.length * 8 := by omega
    have hf4 : j * 8 + 4 < xs.length * 8 := by omega
    have hf5 : j * 8 + 5 < xs.length * 8 := by omega
    have hf6 : j * 8 + 6 < xs.length * 8 := by omega
    have hf7 : j * 8 + 7 < xs.length * 8 := by omega
    rcases ho with rfl | rfl
    all_goals simp -implicitDefEqProofs [hjn, hjl, mkJ_get hjn, hw0, hw1, hw2, hw3, hw4, hw6, hf1, hf2, hf3, hf4, hf5, hf6, hf7]
    all_goals refine callQ_of (hmarkIntS xs[j].dialed.deal.tags _ (by omega) (by omega)) ?_
    all_goals simp -implicitDefEqProofs [hjn, hjl, mkJ_get hjn, hw0, hw1, hw2, hw3, hw4, hw6, hf1, hf2, hf3, hf4, hf5, hf6, hf7]
    all_goals refine callQ_of (hmarkIntS xs[j].dialed.up _ (by omega) (by omega)) ?_
    all_goals simp -implicitDefEqProofs [hjn, hjl, mkJ_get hjn, hw0, hw1, hw2, hw3, hw4, hw6, hf1, hf2, hf3, hf4, hf5, hf6, hf7]
    all_goals exact ⟨n - 1, by omega, j + 1, .dead, fd_dead, by omega, ⟨by first | omega | (rw [wrap_id (by omega) (by omega)]; omega), by simp [hw]⟩, by rw [← hset]; rfl, rfl⟩
  · have hje := mkJ_all (mc := mcLogged) (mk := mkLogged) (xs := xs) (k := k) (j := j) (by omega)
    have hma := mcL_all (mc := mcLogged) (xs := xs) (j := j) (by omega)
    simp -implicitDefEqProofs [hjn, hje, hma, outO]
abbrev heldLoggedSS (R : Rel) : Prop := ∀ (xs : List Logged) (k : Int), 0 ≤ k → k + mcL mcLogged xs ≤ 4611686018427387904 → R [.sl 1 8 xs.length ((mkL mcLogged mkLogged xs k).flatMap eLogged), I k] [] (I (k + mcL mcLogged xs)) []
theorem heldLoggedS_b (D : Dn) (hheldIntS : heldIntSS (D glaws_heldIntS)) : heldLoggedSS (Body D slaws_heldLoggedS) := by
  intro xs k hk hl
  have hlen : xs.length ≤ mcL mcLogged xs := mcL_ge (fun x => by unfold mcLogged; omega) xs
  simp -implicitDefEqProofs
  refine swp_loop (fun n s => ∃ j, j + n = xs.length ∧ s = ⟨[.sl 1 8 xs.length ((mkL mcLogged mkLogged xs k).flatMap eLogged), .sc (.int .i64 (k + mcL mcLogged (xs.take j))), .undef, .sc (.int .i64 j), .undef, .undef, .undef, .undef, .undef, .undef, .undef, .undef, .undef], []⟩) ?_ xs.length _ ⟨0, by simp, by simp [mcL]⟩
  intro n s ⟨j, hj, hs⟩
  subst hs
  by_cases hjn : j < xs.length
  · have hw : IntKind.i64.wrap ((j : Int) + 1) = (j + 1 : Nat) := by rw [wrap_id (by omega) (by omega)]; simp
    have hst := mcL_step (mc := mcLogged) hjn
    have hle := mcL_le (mc := mcLogged) (xs := xs) (j := j + 1)
    have hmc : mcLogged xs[j] = 1 + 1 + 1 + 1 + 1 + xs[j].dialed.deal.tags.length + 1 + xs[j].dialed.up.length := rfl
    have hY := mkL_get (mc := mcLogged) (mk := mkLogged) xs k j hjn
    generalize hK : k + (mcL mcLogged (xs.take j) : Int) = K at hY ⊢
    have hw0 : IntKind.i64.wrap (K + 1) = K + 1 := wrap_id (by omega) (by omega)
    have hw1 : IntKind.i64.wrap (K + 1 + 1) = K + 1 + 1 := wrap_id (by omega) (by omega)
    have hw2 : IntKind.i64.wrap (K + 1 + 1 + 1) = K + 1 + 1 + 1 := wrap_id (by omega) (by omega)
    have hw3 : IntKind.i64.wrap (K + 1 + 1 + 1 + 1) = K + 1 + 1 + 1 + 1 := wrap_id (by omega) (by omega)
    have hw4 : IntKind.i64.wrap (K + 1 + 1 + 1 + 1 + 1) = K + 1 + 1 + 1 + 1 + 1 := wrap_id (by omega) (by omega)
    have hn5 : ¬ K + 1 + 1 + 1 + 1 + 1 + ((xs[j].dialed.deal.tags.length : Nat) : Int) < 0 := by omega
    have hw6 : IntKind.i64.wrap (K + 1 + 1 + 1 + 1 + 1 + ((xs[j].dialed.deal.tags.length : Nat) : Int) + 1) = K + 1 + 1 + 1 + 1 + 1 + ((xs[j].dialed.deal.tags.length : Nat) : Int) + 1 := wrap_id (by omega) (by omega)
    have hn7 : ¬ K + 1 + 1 + 1 + 1 + 1 + ((xs[j].dialed.deal.tags.length : Nat) : Int) + 1 + ((xs[j].dialed.up.length : Nat) : Int) < 0 := by omega
    simp -implicitDefEqProofs [hjn, hY, mkLogged, hw0, hw1, hw2, hw3, hw4, hn5, hw6, hn7]
    refine callQ_of (hheldIntS xs[j].dialed.deal.tags.length _ (by omega) (by omega)) ?_
    simp -implicitDefEqProofs [hjn, hY, mkLogged, hw0, hw1, hw2, hw3, hw4, hn5, hw6, hn7]
    refine callQ_of (hheldIntS xs[j].dialed.up.length _ (by omega) (by omega)) ?_
    simp -implicitDefEqProofs [hjn, hY, mkLogged, hw0, hw1, hw2, hw3, hw4, hn5, hw6, hn7]
    exact ⟨n - 1, by omega, j + 1, by omega, by first | omega | (rw [wrap_id (by omega) (by omega)]; omega), by simp [hw]⟩
  · have hma := mcL_all (mc := mcLogged) (xs := xs) (j := j) (by omega)
    simp -implicitDefEqProofs [hjn, hma]
end Go.Eng.T

namespace Go.Eng.T
set_option maxRecDepth 20000
abbrev szWorldS (R : Rel) : Prop := ∀ (x : World) (l : Int), 0 ≤ l → l ≤ 4194304 → lnWorld x → R [arg (eWorld x), I l] [] (I (szl (szWorld x) l)) []
theorem szWorld_b (D : Dn) (hszIntS : szIntSS (D 16)) (hszEndpointS : szEndpointSS (D 17)) (hszRollout : szRolloutS (D 18)) (hszDialedS : szDialedSS (D 19)) (hszLoggedS : szLoggedSS (D 20)) : szWorldS (Body D slaws_szWorld) := by
  intro x l hl1 hl2 hln
  simp only [lnWorld] at hln
  simp -implicitDefEqProofs
  refine callQ_of (hszIntS x.server (l) (by omega) (by omega) hln.1) ?_
  by_cases g0 : l < ((x.server.length : Nat) : Int)
  · have gg : l < ((szWorld x : Nat) : Int) := by simp only [szWorld]; omega
    have e1 : szl (x.server.length) (l) = -1 := by unfold szl; rw [if_pos g0]
    have e2 : szl (szWorld x) l = -1 := by unfold szl; rw [if_pos gg]
    simp -implicitDefEqProofs [e1, e2]
  have e3 : szl (x.server.length) (l) = l - ((x.server.length : Nat) : Int) := by unfold szl; rw [if_neg g0]
  have p0 : ¬ l - ((x.server.length : Nat) : Int) < 0 := by omega
  simp -implicitDefEqProofs [e3, p0]
  refine callQ_of (hszIntS x.tags (l - ((x.server.length : Nat) : Int)) (by omega) (by omega) hln.2.1) ?_
  by_cases g1 : l - ((x.server.length : Nat) : Int) < ((x.tags.length : Nat) : Int)
  · have gg : l < ((szWorld x : Nat) : Int) := by simp only [szWorld]; omega
    have e1 : szl (x.tags.length) (l - ((x.server.length : Nat) : Int)) = -1 := by unfold szl; rw [if_pos g1]
    have e2 : szl (szWorld x) l = -1 := by unfold szl; rw [if_pos gg]
    simp -implicitDefEqProofs [e1, e2]
  have e4 : szl (x.tags.length) (l - ((x.server.length : Nat) : Int)) = l - ((x.server.length : Nat) : Int) - ((x.tags.length : Nat) : Int) := by unfold szl; rw [if_neg g1]
  have p1 : ¬ l - ((x.server.length : Nat) : Int) - ((x.tags.length : Nat) : Int) < 0 := by omega
  simp -implicitDefEqProofs [e4, p1]
  refine callQ_of (hszEndpointS x.ends (l - ((x.server.length : Nat) : Int) - ((x.tags.length : Nat) : Int)) (by omega) (by omega) hln.2.2.1) ?_
  by_cases g2 : l - ((x.server.length : Nat) : Int) - ((x.tags.length : Nat) : Int) < ((sumF szEndpoint x.ends : Nat) : Int)
  · have gg : l < ((szWorld x : Nat) : Int) := by simp only [szWorld]; omega
    have e1 : szl (sumF szEndpoint x.ends) (l - ((x.server.length : Nat) : Int) - ((x.tags.length : Nat) : Int)) = -1 := by unfold szl; rw [if_pos g2]
    have e2 : szl (szWorld x) l = -1 := by unfold szl; rw [if_pos gg]
    simp -implicitDefEqProofs [e1, e2]
  have e5 : szl (sumF szEndpoint x.ends) (l - ((x.server.length : Nat) : Int) - ((x.tags.length : Nat) : Int)) = l - ((x.server.length : Nat) : Int) - ((x.tags.length : Nat) : Int) - ((sumF szEndpoint x.ends : Nat) : Int) := by unfold szl; rw [if_neg g2]
  have p2 : ¬ l - ((x.server.length : Nat) : Int) - ((x.tags.length : Nat) : Int) - ((sumF szEndpoint x.ends : Nat) : Int) < 0 := by omega
  simp -implicitDefEqProofs [e5, p2]
  refine callQ_of (hszRollout x.rollout (l - ((x.server.length : Nat) : Int) - ((x.tags.length : Nat) : Int) - ((sumF szEndpoint x.ends : Nat) : Int)) (by omega) (by omega) hln.2.2.2.1) ?_
  by_cases g3 : l - ((x.server.length : Nat) : Int) - ((x.tags.length : Nat) : Int) - ((sumF szEndpoint x.ends : Nat) : Int) < ((szRollout x.rollout : Nat) : Int)
  · have gg : l < ((szWorld x : Nat) : Int) := by simp only [szWorld]; omega
    have e1 : szl (szRollout x.rollout) (l - ((x.server.length : Nat) : Int) - ((x.tags.length : Nat) : Int) - ((sumF szEndpoint x.ends : Nat) : Int)) = -1 := by unfold szl; rw [if_pos g3]
    have e2 : szl (szWorld x) l = -1 := by unfold szl; rw [if_pos gg]
    simp -implicitDefEqProofs [e1, e2]
  have e6 : szl (szRollout x.rollout) (l - ((x.server.length : Nat) : Int) - ((x.tags.length : Nat) : Int) - ((sumF szEndpoint x.ends : Nat) : Int)) = l - ((x.server.length : Nat) : Int) - ((x.tags.length : Nat) : Int) - ((sumF szEndpoint x.ends : Nat) : Int) - ((szRollout x.rollout : Nat) : Int) := by unfold szl; rw [if_neg g3]
  have p3 : ¬ l - ((x.server.length : Nat) : Int) - ((x.tags.length : Nat) : Int) - ((sumF szEndpoint x.ends : Nat) : Int) - ((szRollout x.rollout : Nat) : Int) < 0 := by omega
  simp -implicitDefEqProofs [e6, p3]
  refine callQ_of (hszDialedS x.stage (l - ((x.server.length : Nat) : Int) - ((x.tags.length : Nat) : Int) - ((sumF szEndpoint x.ends : Nat) : Int) - ((szRollout x.rollout : Nat) : Int)) (by omega) (by omega) hln.2.2.2.2.1) ?_
  by_cases g4 : l - ((x.server.length : Nat) : Int) - ((x.tags.length : Nat) : Int) - ((sumF szEndpoint x.ends : Nat) : Int) - ((szRollout x.rollout : Nat) : Int) < ((sumF szDialed x.stage : Nat) : Int)
  · have gg : l < ((szWorld x : Nat) : Int) := by simp only [szWorld]; omega
    have e1 : szl (sumF szDialed x.stage) (l - ((x.server.length : Nat) : Int) - ((x.tags.length : Nat) : Int) - ((sumF szEndpoint x.ends : Nat) : Int) - ((szRollout x.rollout : Nat) : Int)) = -1 := by unfold szl; rw [if_pos g4]
    have e2 : szl (szWorld x) l = -1 := by unfold szl; rw [if_pos gg]
    simp -implicitDefEqProofs [e1, e2]
  have e7 : szl (sumF szDialed x.stage) (l - ((x.server.length : Nat) : Int) - ((x.tags.length : Nat) : Int) - ((sumF szEndpoint x.ends : Nat) : Int) - ((szRollout x.rollout : Nat) : Int)) = l - ((x.server.length : Nat) : Int) - ((x.tags.length : Nat) : Int) - ((sumF szEndpoint x.ends : Nat) : Int) - ((szRollout x.rollout : Nat) : Int) - ((sumF szDialed x.stage : Nat) : Int) := by unfold szl; rw [if_neg g4]
  have p4 : ¬ l - ((x.server.length : Nat) : Int) - ((x.tags.length : Nat) : Int) - ((sumF szEndpoint x.ends : Nat) : Int) - ((szRollout x.rollout : Nat) : Int) - ((sumF szDialed x.stage : Nat) : Int) < 0 := by omega
  simp -implicitDefEqProofs [e7, p4]
  refine callQ_of (hszLoggedS x.log (l - ((x.server.length : Nat) : Int) - ((x.tags.length : Nat) : Int) - ((sumF szEndpoint x.ends : Nat) : Int) - ((szRollout x.rollout : Nat) : Int) - ((sumF szDialed x.stage : Nat) : Int)) (by omega) (by omega) hln.2.2.2.2.2) ?_
  by_cases g5 : l - ((x.server.length : Nat) : Int) - ((x.tags.length : Nat) : Int) - ((sumF szEndpoint x.ends : Nat) : Int) - ((szRollout x.rollout : Nat) : Int) - ((sumF szDialed x.stage : Nat) : Int) < ((sumF szLogged x.log : Nat) : Int)
  · have gg : l < ((szWorld x : Nat) : Int) := by simp only [szWorld]; omega
    have e1 : szl (sumF szLogged x.log) (l - ((x.server.length : Nat) : Int) - ((x.tags.length : Nat) : Int) - ((sumF szEndpoint x.ends : Nat) : Int) - ((szRollout x.rollout : Nat) : Int) - ((sumF szDialed x.stage : Nat) : Int)) = -1 := by unfold szl; rw [if_pos g5]
    have e2 : szl (szWorld x) l = -1 := by unfold szl; rw [if_pos gg]
    simp -implicitDefEqProofs [e1, e2]
  have e8 : szl (sumF szLogged x.log) (l - ((x.server.length : Nat) : Int) - ((x.tags.length : Nat) : Int) - ((sumF szEndpoint x.ends : Nat) : Int) - ((szRollout x.rollout : Nat) : Int) - ((sumF szDialed x.stage : Nat) : Int)) = l - ((x.server.length : Nat) : Int) - ((x.tags.length : Nat) : Int) - ((sumF szEndpoint x.ends : Nat) : Int) - ((szRollout x.rollout : Nat) : Int) - ((sumF szDialed x.stage : Nat) : Int) - ((sumF szLogged x.log : Nat) : Int) := by unfold szl; rw [if_neg g5]
  have p5 : ¬ l - ((x.server.length : Nat) : Int) - ((x.tags.length : Nat) : Int) - ((sumF szEndpoint x.ends : Nat) : Int) - ((szRollout x.rollout : Nat) : Int) - ((sumF szDialed x.stage : Nat) : Int) - ((sumF szLogged x.log : Nat) : Int) < 0 := by omega
  simp -implicitDefEqProofs [e8, p5]
  have gg : ¬ l < ((szWorld x : Nat) : Int) := by simp only [szWorld]; omega
  unfold szl; rw [if_neg gg]; simp only [szWorld] <;> omega
abbrev toWorldS (R : Rel) : Prop := ∀ x : World, szWorld x ≤ 4194304 → R [arg (eWorld x)] [] (.agg (eWorld x)) []
theorem toWorld_b (D : Dn) (htoIntS : toIntSS (D 31)) (htoEndpointS : toEndpointSS (D 32)) (htoRollout : toRolloutS (D 33)) (htoDialedS : toDialedSS (D 34)) (htoLoggedS : toLoggedSS (D 35)) : toWorldS (Body D slaws_toWorld) := by
  intro x h
  simp only [szWorld] at h
  simp -implicitDefEqProofs
  refine callQ_of (htoIntS x.server (by omega)) ?_
  simp -implicitDefEqProofs
  refine callQ_of (htoIntS x.tags (by omega)) ?_
  simp -implicitDefEqProofs
  refine callQ_of (htoEndpointS x.ends (by omega)) ?_
  simp -implicitDefEqProofs
  refine callQ_of (htoRollout x.rollout (by omega)) ?_
  simp -implicitDefEqProofs
  refine callQ_of (htoDialedS x.stage (by omega)) ?_
  simp -implicitDefEqProofs
  refine callQ_of (htoLoggedS x.log (by omega)) ?_
  simp -implicitDefEqProofs
abbrev eqWorldS (R : Rel) : Prop := ∀ x y : World, szWorld x ≤ 2 ^ 40 → szWorld y ≤ 2 ^ 40 → R [arg (eWorld x), arg (eWorld y)] [] (B (decide (x = y))) []
theorem eqWorld_b (D : Dn) (heqIntS : eqIntSS (D 47)) (heqEndpointS : eqEndpointSS (D 48)) (heqRollout : eqRolloutS (D 49)) (heqDialedS : eqDialedSS (D 50)) (heqLoggedS : eqLoggedSS (D 51)) : eqWorldS (Body D slaws_eqWorld) := by
  intro x y h1 h2
  simp only [szWorld] at h1 h2
  simp -implicitDefEqProofs
  refine callQ_of (heqIntS x.server y.server (by unfold maxLen; omega) (by unfold maxLen; omega)) ?_
  by_cases g_server : x.server = y.server
  rotate_left
  · have hne : x ≠ y := fun h => g_server (by rw [h])
    simp -implicitDefEqProofs [g_server, hne]
  simp -implicitDefEqProofs [g_server]
  refine callQ_of (heqIntS x.tags y.tags (by unfold maxLen; omega) (by unfold maxLen; omega)) ?_
  by_cases g_tags : x.tags = y.tags
  rotate_left
  · have hne : x ≠ y := fun h => g_tags (by rw [h])
    simp -implicitDefEqProofs [g_tags, hne]
  simp -implicitDefEqProofs [g_tags]
  by_cases g_key : x.key = y.key
  rotate_left
  · have hne : x ≠ y := fun h => g_key (by rw [h])
    simp -implicitDefEqProofs [g_key, hne]
  simp -implicitDefEqProofs [g_key]
  refine callQ_of (heqEndpointS x.ends y.ends (by omega) (by omega)) ?_
  by_cases g_ends : x.ends = y.ends
  rotate_left
  · have hne : x ≠ y := fun h => g_ends (by rw [h])
    simp -implicitDefEqProofs [g_ends, hne]
  simp -implicitDefEqProofs [g_ends]
  refine callQ_of (heqRollout x.rollout y.rollout (by omega) (by omega)) ?_
  by_cases g_rollout : x.rollout = y.rollout
  rotate_left
  · have hne : x ≠ y := fun h => g_rollout (by rw [h])
    simp -implicitDefEqProofs [g_rollout, hne]
  simp -implicitDefEqProofs [g_rollout]
  by_cases g_least : x.least = y.least
  rotate_left
  · have hne : x ≠ y := fun h => g_least (by rw [h])
    simp -implicitDefEqProofs [g_least, hne]
  simp -implicitDefEqProofs [g_least]
  by_cases g_percent : x.percent = y.percent
  rotate_left
  · have hne : x ≠ y := fun h => g_percent (by rw [h])
    simp -implicitDefEqProofs [g_percent, hne]
  simp -implicitDefEqProofs [g_percent]
  refine callQ_of (heqDialedS x.stage y.stage (by omega) (by omega)) ?_
  by_cases g_stage : x.stage = y.stage
  rotate_left
  · have hne : x ≠ y := fun h => g_stage (by rw [h])
    simp -implicitDefEqProofs [g_stage, hne]
  simp -implicitDefEqProofs [g_stage]
  refine callQ_of (heqLoggedS x.log y.log (by omega) (by omega)) ?_
  by_cases g_log : x.log = y.log
  rotate_left
  · have hne : x ≠ y := fun h => g_log (by rw [h])
    simp -implicitDefEqProofs [g_log, hne]
  simp -implicitDefEqProofs [g_log]
  by_cases g_now : x.now = y.now
  rotate_left
  · have hne : x ≠ y := fun h => g_now (by rw [h])
    simp -implicitDefEqProofs [g_now, hne]
  simp -implicitDefEqProofs [g_now]
  by_cases g_hurt : x.hurt = y.hurt
  rotate_left
  · have hne : x ≠ y := fun h => g_hurt (by rw [h])
    simp -implicitDefEqProofs [g_hurt, hne]
  simp -implicitDefEqProofs [g_hurt]
  by_cases g_reached : x.reached = y.reached
  rotate_left
  · have hne : x ≠ y := fun h => g_reached (by rw [h])
    simp -implicitDefEqProofs [g_reached, hne]
  simp -implicitDefEqProofs [g_reached]
  have hxy : x = y := by cases x; cases y; simp_all
  simp -implicitDefEqProofs [hxy]
end Go.Eng.T

namespace Go.Eng.T
abbrev markBoxSS (R : Rel) : Prop := ∀ (xs : List Box) (k : Int), 0 ≤ k → k + mcL mcBox xs ≤ 4611686018427387904 → R [.arr 0, I k] [.arr 4 0 xs.length (xs.flatMap eBox)] (I (k + mcL mcBox xs)) [.arr 4 0 xs.length ((mkL mcBox mkBox xs k).flatMap eBox)]
theorem markBoxS_b (D : Dn) (hmarkIntS : markIntSS (D glaws_markIntS)) : markBoxSS (Body D slaws_markBoxS) := by
  intro xs k hk hl
  have hlen : xs.length ≤ mcL mcBox xs := mcL_ge (fun x => by unfold mcBox; omega) xs
  simp -implicitDefEqProofs
  refine swp_loop (fun n s => ∃ j o, fd o ∧ j + n = xs.length ∧ s = ⟨[.arr 0, .sc (.int .i64 (k + mcL mcBox (xs.take j))), .undef, .sc (.int .i64 j), .undef], [.arr 4 0 xs.length ((mkJ mcBox mkBox xs k j).flatMap eBox), o, o]⟩) ?_ xs.length _ ⟨0, .free, fd_free, by simp, by simp [mkJ_zero, mcL]⟩
  intro n s ⟨j, o, ho, hj, hs⟩
  subst hs
  by_cases hjn : j < xs.length
  · have hw : IntKind.i64.wrap ((j : Int) + 1) = (j + 1 : Nat) := by rw [wrap_id (by omega) (by omega)]; simp
    have hjl : j ≤ xs.length := by omega
    have hst := mcL_step (mc := mcBox) hjn
    have hle := mcL_le (mc := mcBox) (xs := xs) (j := j + 1)
    have hmc : mcBox xs[j] = 1 + xs[j].drops.length + xs[j].strips.length + 1 := rfl
    have hset := mkJ_set (mc := mcBox) (mk := mkBox) (k := k) hjn
    generalize hK : k + (mcL mcBox (xs.take j) : Int) = K at hset ⊢
    have hw0 : IntKind.i64.wrap (K + 1) = K + 1 := wrap_id (by omega) (by omega)
    have hw3 : IntKind.i64.wrap (K + 1 + ((xs[j].drops.length : Nat) : Int) + ((xs[j].strips.length : Nat) : Int) + 1) = K + 1 + ((xs[j].drops.length : Nat) : Int) + ((xs[j].strips.length : Nat) : Int) + 1 := wrap_id (by omega) (by omega)
    have hf1 : j * 4 + 1 < xs.length * 4 := by omega
    have hf2 : j * 4 + 2 < xs.length * 4 := by omega
    have hf3 : j * 4 + 3 < xs.length * 4 := by omega
    rcases ho with rfl | rfl
    all_goals simp -implicitDefEqProofs [hjn, hjl, mkJ_get hjn, hw0, hw3, hf1, hf2, hf3]
    all_goals refine callQ_of (hmarkIntS xs[j].drops _ (by omega) (by omega)) ?_
    all_goals simp -implicitDefEqProofs [hjn, hjl, mkJ_get hjn, hw0, hw3, hf1, hf2, hf3]
    all_goals refine callQ_of (hmarkIntS xs[j].strips _ (by omega) (by omega)) ?_
    all_goals simp -implicitDefEqProofs [hjn, hjl, mkJ_get hjn, hw0, hw3, hf1, hf2, hf3]
    all_goals exact ⟨n - 1, by omega, j + 1, .dead, fd_dead, by omega, ⟨by first | omega | (rw [wrap_id (by omega) (by omega)]; omega), by simp [hw]⟩, by rw [← hset]; rfl, rfl⟩
  · have hje := mkJ_all (mc := mcBox) (mk := mkBox) (xs := xs) (k := k) (j := j) (by omega)
    have hma := mcL_all (mc := mcBox) (xs := xs) (j := j) (by omega)
    simp -implicitDefEqProofs [hjn, hje, hma, outO]
abbrev heldBoxSS (R : Rel) : Prop := ∀ (xs : List Box) (k : Int), 0 ≤ k → k + mcL mcBox xs ≤ 4611686018427387904 → R [.sl 1 4 xs.length ((mkL mcBox mkBox xs k).flatMap eBox), I k] [] (I (k + mcL mcBox xs)) []
theorem heldBoxS_b (D : Dn) (hheldIntS : heldIntSS (D glaws_heldIntS)) : heldBoxSS (Body D slaws_heldBoxS) := by
  intro xs k hk hl
  have hlen : xs.length ≤ mcL mcBox xs := mcL_ge (fun x => by unfold mcBox; omega) xs
  simp -implicitDefEqProofs
  refine swp_loop (fun n s => ∃ j, j + n = xs.length ∧ s = ⟨[.sl 1 4 xs.length ((mkL mcBox mkBox xs k).flatMap eBox), .sc (.int .i64 (k + mcL mcBox (xs.take j))), .undef, .sc (.int .i64 j), .undef, .undef, .undef, .undef, .undef], []⟩) ?_ xs.length _ ⟨0, by simp, by simp [mcL]⟩
  intro n s ⟨j, hj, hs⟩
  subst hs
  by_cases hjn : j < xs.length
  · have hw : IntKind.i64.wrap ((j : Int) + 1) = (j + 1 : Nat) := by rw [wrap_id (by omega) (by omega)]; simp
    have hst := mcL_step (mc := mcBox) hjn
    have hle := mcL_le (mc := mcBox) (xs := xs) (j := j + 1)
    have hmc : mcBox xs[j] = 1 + xs[j].drops.length + xs[j].strips.length + 1 := rfl
    have hY := mkL_get (mc := mcBox) (mk := mkBox) xs k j hjn
    generalize hK : k + (mcL mcBox (xs.take j) : Int) = K at hY ⊢
    have hw0 : IntKind.i64.wrap (K + 1) = K + 1 := wrap_id (by omega) (by omega)
    have hn1 : ¬ K + 1 + ((xs[j].drops.length : Nat) : Int) < 0 := by omega
    have hn2 : ¬ K + 1 + ((xs[j].drops.length : Nat) : Int) + ((xs[j].strips.length : Nat) : Int) < 0 := by omega
    have hw3 : IntKind.i64.wrap (K + 1 + ((xs[j].drops.length : Nat) : Int) + ((xs[j].strips.length : Nat) : Int) + 1) = K + 1 + ((xs[j].drops.length : Nat) : Int) + ((xs[j].strips.length : Nat) : Int) + 1 := wrap_id (by omega) (by omega)
    simp -implicitDefEqProofs [hjn, hY, mkBox, hw0, hn1, hn2, hw3]
    refine callQ_of (hheldIntS xs[j].drops.length _ (by omega) (by omega)) ?_
    simp -implicitDefEqProofs [hjn, hY, mkBox, hw0, hn1, hn2, hw3]
    refine callQ_of (hheldIntS xs[j].strips.length _ (by omega) (by omega)) ?_
    simp -implicitDefEqProofs [hjn, hY, mkBox, hw0, hn1, hn2, hw3]
    exact ⟨n - 1, by omega, j + 1, by omega, by first | omega | (rw [wrap_id (by omega) (by omega)]; omega), by simp [hw]⟩
  · have hma := mcL_all (mc := mcBox) (xs := xs) (j := j) (by omega)
    simp -implicitDefEqProofs [hjn, hma]
abbrev markEndpointSS (R : Rel) : Prop := ∀ (xs : List Endpoint) (k : Int), 0 ≤ k → k + mcL mcEndpoint xs ≤ 4611686018427387904 → R [.arr 0, I k] [.arr 4 0 xs.length (xs.flatMap eEndpoint)] (I (k + mcL mcEndpoint xs)) [.arr 4 0 xs.length ((mkL mcEndpoint mkEndpoint xs k).flatMap eEndpoint)]
theorem markEndpointS_b (D : Dn) (hmarkIntS : markIntSS (D glaws_markIntS)) (hmarkBoxS : markBoxSS (D glaws_markBoxS)) : markEndpointSS (Body D slaws_markEndpointS) := by
  intro xs k hk hl
  have hlen : xs.length ≤ mcL mcEndpoint xs := mcL_ge (fun x => by unfold mcEndpoint; omega) xs
  simp -implicitDefEqProofs
  refine swp_loop (fun n s => ∃ j o, fd o ∧ j + n = xs.length ∧ s = ⟨[.arr 0, .sc (.int .i64 (k + mcL mcEndpoint (xs.take j))), .undef, .sc (.int .i64 j), .undef], [.arr 4 0 xs.length ((mkJ mcEndpoint mkEndpoint xs k j).flatMap eEndpoint), o, o, o]⟩) ?_ xs.length _ ⟨0, .free, fd_free, by simp, by simp [mkJ_zero, mcL]⟩
  intro n s ⟨j, o, ho, hj, hs⟩
  subst hs
  by_cases hjn : j < xs.length
  · have hw : IntKind.i64.wrap ((j : Int) + 1) = (j + 1 : Nat) := by rw [wrap_id (by omega) (by omega)]; simp
    have hjl : j ≤ xs.length := by omega
    have hst := mcL_step (mc := mcEndpoint) hjn
    have hle := mcL_le (mc := mcEndpoint) (xs := xs) (j := j + 1)
    have hmc : mcEndpoint xs[j] = xs[j].versions.length + xs[j].tags.length + mcL mcBox xs[j].path + 1 := rfl
    have hset := mkJ_set (mc := mcEndpoint) (mk := mkEndpoint) (k := k) hjn
    generalize hK : k + (mcL mcEndpoint (xs.take j) : Int) = K at hset ⊢
    have hw3 : IntKind.i64.wrap (K + ((xs[j].versions.length : Nat) : Int) + ((xs[j].tags.length : Nat) : Int) + ((mcL mcBox xs[j].path : Nat) : Int) + 1) = K + ((xs[j].versions.length : Nat) : Int) + ((xs[j].tags.length : Nat) : Int) + ((mcL mcBox xs[j].path : Nat) : Int) + 1 := wrap_id (by omega) (by omega)
    have hf1 : j * 4 + 1 < xs.length * 4 := by omega
    have hf2 : j * 4 + 2 < xs.length * 4 := by omega
    have hf3 : j * 4 + 3 < xs.length * 4 := by omega
    rcases ho with rfl | rfl
    all_goals simp -implicitDefEqProofs [hjn, hjl, mkJ_get hjn, hw3, hf1, hf2, hf3]
    all_goals refine callQ_of (hmarkIntS xs[j].versions _ (by omega) (by omega)) ?_
    all_goals simp -implicitDefEqProofs [hjn, hjl, mkJ_get hjn, hw3, hf1, hf2, hf3]
    all_goals refine callQ_of (hmarkIntS xs[j].tags _ (by omega) (by omega)) ?_
    all_goals simp -implicitDefEqProofs [hjn, hjl, mkJ_get hjn, hw3, hf1, hf2, hf3]
    all_goals refine callQ_of (hmarkBoxS xs[j].path _ (by omega) (by omega)) ?_
    all_goals simp -implicitDefEqProofs [hjn, hjl, mkJ_get hjn, hw3, hf1, hf2, hf3]
    all_goals exact ⟨n - 1, by omega, j + 1, .dead, fd_dead, by omega, ⟨by first | omega | (rw [wrap_id (by omega) (by omega)]; omega), by simp [hw]⟩, by rw [← hset]; rfl, rfl⟩
  · have hje := mkJ_all (mc := mcEndpoint) (mk := mkEndpoint) (xs := xs) (k := k) (j := j) (by omega)
    have hma := mcL_all (mc := mcEndpoint) (xs := xs) (j := j) (by omega)
    simp -implicitDefEqProofs [hjn, hje, hma, outO]
abbrev heldEndpointSS (R : Rel) : Prop := ∀ (xs : List Endpoint) (k : Int), 0 ≤ k → k + mcL mcEndpoint xs ≤ 4611686018427387904 → R [.sl 1 4 xs.length ((mkL mcEndpoint mkEndpoint xs k).flatMap eEndpoint), I k] [] (I (k + mcL mcEndpoint xs)) []
theorem heldEndpointS_b (D : Dn) (hheldIntS : heldIntSS (D glaws_heldIntS)) (hheldBoxS : heldBoxSS (D glaws_heldBoxS)) : heldEndpointSS (Body D slaws_heldEndpointS) := by
  intro xs k hk hl
  have hlen : xs.length ≤ mcL mcEndpoint xs := mcL_ge (fun x => by unfold mcEndpoint; omega) xs
  simp -implicitDefEqProofs
  refine swp_loop (fun n s => ∃ j, j + n = xs.length ∧ s = ⟨[.sl 1 4 xs.length ((mkL mcEndpoint mkEndpoint xs k).flatMap eEndpoint), .sc (.int .i64 (k + mcL mcEndpoint (xs.take j))), .undef, .sc (.int .i64 j), .undef, .undef, .undef, .undef, .undef], []⟩) ?_ xs.length _ ⟨0, by simp, by simp [mcL]⟩
  intro n s ⟨j, hj, hs⟩
  subst hs
  by_cases hjn : j < xs.length
  · have hw : IntKind.i64.wrap ((j : Int) + 1) = (j + 1 : Nat) := by rw [wrap_id (by omega) (by omega)]; simp
    have hst := mcL_step (mc := mcEndpoint) hjn
    have hle := mcL_le (mc := mcEndpoint) (xs := xs) (j := j + 1)
    have hmc : mcEndpoint xs[j] = xs[j].versions.length + xs[j].tags.length + mcL mcBox xs[j].path + 1 := rfl
    have hY := mkL_get (mc := mcEndpoint) (mk := mkEndpoint) xs k j hjn
    generalize hK : k + (mcL mcEndpoint (xs.take j) : Int) = K at hY ⊢
    have hn0 : ¬ K + ((xs[j].versions.length : Nat) : Int) < 0 := by omega
    have hn1 : ¬ K + ((xs[j].versions.length : Nat) : Int) + ((xs[j].tags.length : Nat) : Int) < 0 := by omega
    have hn2 : ¬ K + ((xs[j].versions.length : Nat) : Int) + ((xs[j].tags.length : Nat) : Int) + ((mcL mcBox xs[j].path : Nat) : Int) < 0 := by omega
    have hw3 : IntKind.i64.wrap (K + ((xs[j].versions.length : Nat) : Int) + ((xs[j].tags.length : Nat) : Int) + ((mcL mcBox xs[j].path : Nat) : Int) + 1) = K + ((xs[j].versions.length : Nat) : Int) + ((xs[j].tags.length : Nat) : Int) + ((mcL mcBox xs[j].path : Nat) : Int) + 1 := wrap_id (by omega) (by omega)
    simp -implicitDefEqProofs [hjn, hY, mkEndpoint, hn0, hn1, hn2, hw3]
    refine callQ_of (hheldIntS xs[j].versions.length _ (by omega) (by omega)) ?_
    simp -implicitDefEqProofs [hjn, hY, mkEndpoint, hn0, hn1, hn2, hw3]
    refine callQ_of (hheldIntS xs[j].tags.length _ (by omega) (by omega)) ?_
    simp -implicitDefEqProofs [hjn, hY, mkEndpoint, hn0, hn1, hn2, hw3]
    refine callQ_of (hheldBoxS xs[j].path _ (by omega) (by omega)) ?_
    simp -implicitDefEqProofs [hjn, hY, mkEndpoint, hn0, hn1, hn2, hw3]
    exact ⟨n - 1, by omega, j + 1, by omega, by first | omega | (rw [wrap_id (by omega) (by omega)]; omega), by simp [hw]⟩
  · have hma := mcL_all (mc := mcEndpoint) (xs := xs) (j := j) (by omega)
    simp -implicitDefEqProofs [hjn, hma]
end Go.Eng.T

namespace Go.Eng.T
set_option maxRecDepth 20000
abbrev markRolloutS (R : Rel) : Prop := ∀ (x : Rollout) (k : Int), 0 ≤ k → k + mcRollout x ≤ 4611686018427387904 → R [.agg [.sc (.int .i64 x.version), .arr 0, .sc (.int .i64 x.pos), .sc (.bool x.off)], I k] [.arr 1 0 x.stages.length (ints (x.stages))] (I (k + mcRollout x)) [.arr 1 0 x.stages.length (ints ((mkRollout x k).stages))]
theorem markRollout_b (D : Dn) (hmarkIntS : markIntSS (D glaws_markIntS)) : markRolloutS (Body D slaws_markRollout) := by
  intro x k hk hl
  simp only [mcRollout] at hl
  simp -implicitDefEqProofs
  refine callQ_of (hmarkIntS x.stages _ (by omega) (by omega)) ?_
  simp -implicitDefEqProofs [mcRollout, mkRollout, mcDeal, mkDeal]
  simp [mkRollout, mcRollout, outO, Int.add_assoc, show List.range 6 = [0, 1, 2, 3, 4, 5] from rfl, show List.range 2 = [0, 1] from rfl, show List.range 3 = [0, 1, 2] from rfl]
abbrev heldRolloutS (R : Rel) : Prop := ∀ (x : Rollout) (k : Int), 0 ≤ k → k + mcRollout x ≤ 4611686018427387904 → R [arg (eRollout (mkRollout x k)), I k] [] (I (k + mcRollout x)) []
theorem heldRollout_b (D : Dn) (hheldIntS : heldIntSS (D glaws_heldIntS)) : heldRolloutS (Body D slaws_heldRollout) := by
  intro x k hk hl
  simp only [mcRollout] at hl
  have hn1 : ¬ k + ((x.stages.length : Nat) : Int) < 0 := by omega
  simp -implicitDefEqProofs [mkRollout, mcRollout, mcDeal, hn1]
  refine callQ_of (hheldIntS x.stages.length _ (by omega) (by omega)) ?_
  simp -implicitDefEqProofs [mkRollout, mcRollout, mcDeal, hn1]
  try simp [mcRollout, Int.add_assoc]
abbrev markWorldS (R : Rel) : Prop := ∀ (x : World) (k : Int), 0 ≤ k → k + mcWorld x ≤ 4611686018427387904 → R [.agg [.arr 0, .arr 1, .sc (.int .i64 x.key), .arr 2, .sc (.int .i64 x.rollout.version), .arr 3, .sc (.int .i64 x.rollout.pos), .sc (.bool x.rollout.off), .sc (.int .i64 x.least), .sc (.int .i64 x.percent), .arr 4, .arr 5, .sc (.int .i64 x.now), .sc (.int .i64 x.hurt), .sc (.int .i64 x.reached)], I k] [.arr 1 0 x.server.length (ints (x.server)), .arr 1 0 x.tags.length (ints (x.tags)), .arr 4 0 x.ends.length ((x.ends).flatMap eEndpoint), .arr 1 0 x.rollout.stages.length (ints (x.rollout.stages)), .arr 5 0 x.stage.length ((x.stage).flatMap eDialed), .arr 8 0 x.log.length ((x.log).flatMap eLogged)] (I (k + mcWorld x)) [.arr 1 0 x.server.length (ints ((mkWorld x k).server)), .arr 1 0 x.tags.length (ints ((mkWorld x k).tags)), .arr 4 0 x.ends.length (((mkWorld x k).ends).flatMap eEndpoint), .arr 1 0 x.rollout.stages.length (ints ((mkWorld x k).rollout.stages)), .arr 5 0 x.stage.length (((mkWorld x k).stage).flatMap eDialed), .arr 8 0 x.log.length (((mkWorld x k).log).flatMap eLogged)]
theorem markWorld_b (D : Dn) (hmarkIntS : markIntSS (D glaws_markIntS)) (hmarkEndpointS : markEndpointSS (D glaws_markEndpointS)) (hmarkRollout : markRolloutS (D glaws_markRollout)) (hmarkDialedS : markDialedSS (D glaws_markDialedS)) (hmarkLoggedS : markLoggedSS (D glaws_markLoggedS)) : markWorldS (Body D slaws_markWorld) := by
  intro x k hk hl
  simp only [mcWorld] at hl
  simp -implicitDefEqProofs
  refine callQ_of (hmarkIntS x.server _ (by omega) (by omega)) ?_
  simp -implicitDefEqProofs [mcRollout, mkRollout, mcDeal, mkDeal]
  refine callQ_of (hmarkIntS x.tags _ (by omega) (by omega)) ?_
  simp -implicitDefEqProofs [mcRollout, mkRollout, mcDeal, mkDeal]
  refine callQ_of (hmarkEndpointS x.ends _ (by omega) (by omega)) ?_
  simp -implicitDefEqProofs [mcRollout, mkRollout, mcDeal, mkDeal]
  refine callQ_of (hmarkRollout x.rollout _ (by omega) (by simp only [mcRollout]; omega)) ?_
  simp -implicitDefEqProofs [mcRollout, mkRollout, mcDeal, mkDeal]
  refine callQ_of (hmarkDialedS x.stage _ (by omega) (by omega)) ?_
  simp -implicitDefEqProofs [mcRollout, mkRollout, mcDeal, mkDeal]
  refine callQ_of (hmarkLoggedS x.log _ (by omega) (by omega)) ?_
  simp -implicitDefEqProofs [mcRollout, mkRollout, mcDeal, mkDeal]
  simp [mkWorld, mcWorld, outO, Int.add_assoc, show List.range 6 = [0, 1, 2, 3, 4, 5] from rfl, show List.range 2 = [0, 1] from rfl, show List.range 3 = [0, 1, 2] from rfl]
abbrev heldWorldS (R : Rel) : Prop := ∀ (x : World) (k : Int), 0 ≤ k → k + mcWorld x ≤ 4611686018427387904 → R [arg (eWorld (mkWorld x k)), I k] [] (I (k + mcWorld x)) []
theorem heldWorld_b (D : Dn) (hheldIntS : heldIntSS (D glaws_heldIntS)) (hheldEndpointS : heldEndpointSS (D glaws_heldEndpointS)) (hheldRollout : heldRolloutS (D glaws_heldRollout)) (hheldDialedS : heldDialedSS (D glaws_heldDialedS)) (hheldLoggedS : heldLoggedSS (D glaws_heldLoggedS)) : heldWorldS (Body D slaws_heldWorld) := by
  intro x k hk hl
  simp only [mcWorld] at hl
  have hn0 : ¬ k + ((x.server.length : Nat) : Int) < 0 := by omega
  have hn1 : ¬ k + ((x.server.length : Nat) : Int) + ((x.tags.length : Nat) : Int) < 0 := by omega
  have hn3 : ¬ k + ((x.server.length : Nat) : Int) + ((x.tags.length : Nat) : Int) + ((mcL mcEndpoint x.ends : Nat) : Int) < 0 := by omega
  have hn4 : ¬ k + ((x.server.length : Nat) : Int) + ((x.tags.length : Nat) : Int) + ((mcL mcEndpoint x.ends : Nat) : Int) + ((x.rollout.stages.length : Nat) : Int) < 0 := by omega
  have hn7 : ¬ k + ((x.server.length : Nat) : Int) + ((x.tags.length : Nat) : Int) + ((mcL mcEndpoint x.ends : Nat) : Int) + ((x.rollout.stages.length : Nat) : Int) + ((mcL mcDialed x.stage : Nat) : Int) < 0 := by omega
  have hn8 : ¬ k + ((x.server.length : Nat) : Int) + ((x.tags.length : Nat) : Int) + ((mcL mcEndpoint x.ends : Nat) : Int) + ((x.rollout.stages.length : Nat) : Int) + ((mcL mcDialed x.stage : Nat) : Int) + ((mcL mcLogged x.log : Nat) : Int) < 0 := by omega
  simp -implicitDefEqProofs [mkWorld, mcRollout, mcDeal, hn0, hn1, hn3, hn4, hn7, hn8]
  refine callQ_of (hheldIntS x.server.length _ (by omega) (by omega)) ?_
  simp -implicitDefEqProofs [mkWorld, mcRollout, mcDeal, hn0, hn1, hn3, hn4, hn7, hn8]
  refine callQ_of (hheldIntS x.tags.length _ (by omega) (by omega)) ?_
  simp -implicitDefEqProofs [mkWorld, mcRollout, mcDeal, hn0, hn1, hn3, hn4, hn7, hn8]
  refine callQ_of (hheldEndpointS x.ends _ (by omega) (by omega)) ?_
  simp -implicitDefEqProofs [mkWorld, mcRollout, mcDeal, hn0, hn1, hn3, hn4, hn7, hn8]
  have hr := hheldRollout x.rollout (k + ((x.server.length : Nat) : Int) + ((x.tags.length : Nat) : Int) + ((mcL mcEndpoint x.ends : Nat) : Int)) (by omega) (by simp only [mcRollout]; omega)
  simp [mkRollout, mcRollout] at hr
  refine callQ_of hr ?_
  simp -implicitDefEqProofs [mkWorld, mcRollout, mcDeal, hn0, hn1, hn3, hn4, hn7, hn8]
  refine callQ_of (hheldDialedS x.stage _ (by omega) (by omega)) ?_
  simp -implicitDefEqProofs [mkWorld, mcRollout, mcDeal, hn0, hn1, hn3, hn4, hn7, hn8]
  refine callQ_of (hheldLoggedS x.log _ (by omega) (by omega)) ?_
  simp -implicitDefEqProofs [mkWorld, mcRollout, mcDeal, hn0, hn1, hn3, hn4, hn7, hn8]
  try simp [mcWorld, Int.add_assoc]
end Go.Eng.T

namespace Go.Eng.T

theorem not_mem_step {xs : List Int} {v : Int} {j : Nat} (h : j < xs.length) (hp : v ∉ xs.take j) (hv : ¬ xs[j] = v) : v ∉ xs.take (j + 1) := by
  rw [List.take_add_one, List.getElem?_eq_getElem h]
  intro hm
  rcases List.mem_append.1 hm with hm | hm
  · exact hp hm
  · simp at hm; exact hv hm.symm
theorem not_mem_all {xs : List Int} {v : Int} {j : Nat} (h : xs.length ≤ j) (hp : v ∉ xs.take j) : v ∉ xs := by rwa [List.take_of_length_le h] at hp
theorem mem_here {xs : List Int} {v : Int} {j : Nat} (h : j < xs.length) (hv : xs[j] = v) : v ∈ xs := by rw [← hv]; exact List.getElem_mem h

/-- where v stands first, or -1 -/
def idxI (xs : List Int) (v : Int) : Int := if v ∈ xs then (xs.idxOf v : Nat) else -1
theorem idxI_hit {xs : List Int} {v : Int} {j : Nat} (h : j < xs.length) (hp : v ∉ xs.take j) (hv : xs[j] = v) : idxI xs v = j := by
  unfold idxI
  rw [if_pos (mem_here h hv)]
  congr 1
  have e : xs = xs.take j ++ v :: xs.drop (j + 1) := by
    conv => lhs; rw [← List.take_append_drop j xs, List.drop_eq_getElem_cons h, hv]
  rw [e, List.idxOf_append, if_neg hp]
  simp
  omega
theorem idxI_ge {xs : List Int} {v : Int} : (0 ≤ idxI xs v) = (v ∈ xs) := by
  unfold idxI
  by_cases h : v ∈ xs <;> simp [h]

abbrev IndexS (R : Rel) : Prop := ∀ (xs : List Int) (v : Int), xs.length ≤ maxLen → R [.sl 1 1 xs.length (ints xs), I v] [] (I (idxI xs v)) []
theorem Index_b (D : Dn) : IndexS (Body D sslices_Index___int_int_) := by
  intro xs v hl
  unfold maxLen at hl
  simp -implicitDefEqProofs
  refine swp_loop (fun k s => ∃ j, j + k = xs.length ∧ v ∉ xs.take j ∧ s = ⟨[.sl 1 1 xs.length (ints xs), .sc (.int .i64 v), .undef, .undef, .sc (.int .i64 xs.length), .sc (.int .i64 j), .undef, .undef], []⟩) ?_ xs.length _ ⟨0, by simp, by simp, by simp⟩
  intro k s ⟨j, hj, hp, hs⟩
  subst hs
  by_cases hjn : j < xs.length
  · have hw : IntKind.i64.wrap ((j : Int) + 1) = (j + 1 : Nat) := by rw [wrap_id (by omega) (by omega)]; simp
    by_cases he : v = xs[j]
    · have hx := idxI_hit hjn hp he.symm
      simp -implicitDefEqProofs [hjn, ← he, hx]
    · simp -implicitDefEqProofs [hjn, he]
      exact ⟨k - 1, by omega, j + 1, by omega, not_mem_step hjn hp (fun h => he h.symm), by simp [hw]⟩
  · have hx : idxI xs v = -1 := by unfold idxI; rw [if_neg (not_mem_all (by omega) hp)]
    simp -implicitDefEqProofs [hjn, hx]

abbrev HasS (R : Rel) : Prop := ∀ (xs : List Int) (v : Int), xs.length ≤ maxLen → R [.sl 1 1 xs.length (ints xs), I v] [] (B (decide (v ∈ xs))) []
theorem Contains_b (D : Dn) (hI : IndexS (D 389)) : HasS (Body D sslices_Contains___int_int_) := by
  intro xs v hl
  simp -implicitDefEqProofs
  refine callQ_of (hI xs v hl) ?_
  simp -implicitDefEqProofs [idxI_ge]
theorem l9Has_b (D : Dn) : HasS (Body D sspec_l9Has) := by
  intro xs v hl
  unfold maxLen at hl
  simp -implicitDefEqProofs
  refine swp_loop (fun k s => ∃ j, j + k = xs.length ∧ v ∉ xs.take j ∧ s = ⟨[.sl 1 1 xs.length (ints xs), .sc (.int .i64 v), .undef, .sc (.int .i64 j), .undef, .undef], []⟩) ?_ xs.length _ ⟨0, by simp, by simp, by simp⟩
  intro k s ⟨j, hj, hp, hs⟩
  subst hs
  by_cases hjn : j < xs.length
  · have hw : IntKind.i64.wrap ((j : Int) + 1) = (j + 1 : Nat) := by rw [wrap_id (by omega) (by omega)]; simp
    by_cases he : xs[j] = v
    · have hx := mem_here hjn he
      simp -implicitDefEqProofs [hjn, he, hx]
    · simp -implicitDefEqProofs [hjn, he]
      exact ⟨k - 1, by omega, j + 1, by omega, not_mem_step hjn hp he, by simp [hw]⟩
  · have hx := not_mem_all (by omega) hp
    simp -implicitDefEqProofs [hjn, hx]

/-- a dial that says that the version did not come through -/
def badD (v : Int) (d : Dialed) : Bool := !d.deal.ok || (decide (d.deal.version < v) && decide (v ∈ d.up))
def goodD (v : Int) (d : Dialed) : Bool := !badD v d && decide (v ≤ d.deal.version)
def cntF {α : Type} (f : α → Bool) (xs : List α) : Nat := (xs.filter f).length
theorem cnt_step {α : Type} {f : α → Bool} {xs : List α} {j : Nat} (h : j < xs.length) : cntF f (xs.take (j + 1)) = cntF f (xs.take j) + (if f xs[j] then 1 else 0) := by
  unfold cntF
  rw [List.take_add_one, List.getElem?_eq_getElem h, List.filter_append, List.length_append]
  congr 1
  by_cases hf : f xs[j] <;> simp [hf]
theorem cnt_le {α : Type} {f : α → Bool} {xs : List α} {j : Nat} (h : j ≤ xs.length) : cntF f (xs.take j) ≤ j := by
  unfold cntF
  have := List.length_filter_le f (xs.take j)
  simp at this
  omega
theorem cnt_all {α : Type} {f : α → Bool} {xs : List α} {j : Nat} (h : xs.length ≤ j) : cntF f (xs.take j) = cntF f xs := by rw [List.take_of_length_le h]

abbrev CountKindS (R : Rel) : Prop := ∀ (xs : List Event) (v : Int), xs.length ≤ maxLen → R [.sl 1 6 xs.length (xs.flatMap eEvent), I v] [] (I (cntF (fun e => decide (e.kind = v)) xs)) []
end Go.Eng.T

namespace Go.Eng.T

abbrev MaskedByS (R : Rel) : Prop := ∀ (xs : List Dialed) (v : Int), xs.length ≤ maxLen → (∀ (j : Nat) (h : j < xs.length), xs[j].up.length ≤ maxLen) →
  R [.sl 1 5 xs.length (xs.flatMap eDialed), I v] [] (.tup [I (cntF (goodD v) xs), I (cntF (badD v) xs)]) []
theorem sMaskedBy_b (D : Dn) (hH : HasS (D 166)) : MaskedByS (Body D sspec_MaskedBy) := by
  intro xs v hl hu
  unfold maxLen at hl
  simp -implicitDefEqProofs
  refine swp_loop (fun k s => ∃ j o0, j + k = xs.length ∧ s = ⟨[.sl 1 5 xs.length (xs.flatMap eDialed), .sc (.int .i64 v), .undef, .undef, .sc (.int .i64 (cntF (goodD v) (xs.take j))), .sc (.int .i64 (cntF (badD v) (xs.take j))), .sc (.int .i64 j), .undef, .undef, .undef, .undef], [o0]⟩) ?_ xs.length _ ⟨0, .free, by simp, by simp [cntF]⟩
  intro k s ⟨j, o0, hj, hs⟩
  subst hs
  by_cases hjn : j < xs.length
  · have hw : IntKind.i64.wrap ((j : Int) + 1) = (j + 1 : Nat) := by rw [wrap_id (by omega) (by omega)]; simp
    have hc := cnt_step (f := goodD v) hjn
    have hb := cnt_step (f := badD v) hjn
    have hcl := cnt_le (f := goodD v) (xs := xs) (j := j) (by omega)
    have hbl := cnt_le (f := badD v) (xs := xs) (j := j) (by omega)
    have hw2 : IntKind.i64.wrap ((cntF (goodD v) (xs.take j) : Int) + 1) = (cntF (goodD v) (xs.take j) + 1 : Nat) := by rw [wrap_id (by omega) (by omega)]; simp
    have hw3 : IntKind.i64.wrap ((cntF (badD v) (xs.take j) : Int) + 1) = (cntF (badD v) (xs.take j) + 1 : Nat) := by rw [wrap_id (by omega) (by omega)]; simp
    have fin : ∀ (a b : Bool), goodD v xs[j] = a → badD v xs[j] = b → ∀ x y : Int, x = ((cntF (goodD v) (xs.take j) + (if a then 1 else 0) : Nat) : Int) → y = ((cntF (badD v) (xs.take j) + (if b then 1 else 0) : Nat) : Int) →
        x = cntF (goodD v) (xs.take (j + 1)) ∧ y = cntF (badD v) (xs.take (j + 1)) := by
      intro a b ha hb' x y hx hy
      rw [hc, hb, ha, hb']
      exact ⟨hx, hy⟩
    by_cases h1 : xs[j].deal.ok = true
    · by_cases h2 : xs[j].deal.version < v
      · simp -implicitDefEqProofs [hjn, h1, h2]
        refine callQ_of (hH xs[j].up v (hu j hjn)) ?_
        by_cases h3 : v ∈ xs[j].up
        · have g := fin false true (by simp [goodD, badD, h1, h2, h3]) (by simp [badD, h1, h2, h3]) _ _ rfl rfl
          simp -implicitDefEqProofs [h3]
          exact ⟨k - 1, by omega, j + 1, by omega, by simpa using g.1, by rw [hw3]; simpa using g.2, by simp [hw]⟩
        · have h4 : ¬ v ≤ xs[j].deal.version := by omega
          have g := fin false false (by simp [goodD, badD, h1, h2, h3, h4]) (by simp [badD, h1, h2, h3]) _ _ rfl rfl
          simp -implicitDefEqProofs [h3, h4]
          exact ⟨k - 1, by omega, j + 1, by omega, by simpa using g.1, by simpa using g.2, by simp [hw]⟩
      · have h4 : v ≤ xs[j].deal.version := by omega
        have g := fin true false (by simp [goodD, badD, h1, h2, h4]) (by simp [badD, h1, h2]) _ _ rfl rfl
        simp -implicitDefEqProofs [hjn, h1, h2, h4]
        exact ⟨k - 1, by omega, j + 1, by omega, by rw [hw2]; simpa using g.1, by simpa using g.2, by simp [hw]⟩
    · have g := fin false true (by simp [goodD, badD, h1]) (by simp [badD, h1]) _ _ rfl rfl
      simp -implicitDefEqProofs [hjn, h1]
      exact ⟨k - 1, by omega, j + 1, by omega, by simpa using g.1, by rw [hw3]; simpa using g.2, by simp [hw]⟩
  · have hx := cnt_all (f := goodD v) (xs := xs) (j := j) (by omega)
    have hy := cnt_all (f := badD v) (xs := xs) (j := j) (by omega)
    simp -implicitDefEqProofs [hjn, hx, hy]

abbrev IsBadDialS (R : Rel) : Prop := ∀ (d : Dialed) (v : Int), d.up.length ≤ maxLen → R [arg (eDialed d), I v] [] (B (badD v d)) []
theorem isBad_b (D : Dn) (hH : HasS (D 188)) : IsBadDialS (Body D simpl_isBad) := by
  intro d v hu
  by_cases h1 : d.deal.ok = true
  · by_cases h2 : d.deal.version < v
    · simp -implicitDefEqProofs [h1, h2]
      refine callQ_of (hH d.up v hu) ?_
      simp -implicitDefEqProofs [badD, h1, h2]
    · simp -implicitDefEqProofs [h1, h2, badD]
  · simp -implicitDefEqProofs [h1, badD]
end Go.Eng.T

namespace Go.Eng.T
theorem datL_cons {y : Ty} {ys : List Ty} {cs : List V} (h : DatL (y :: ys) cs) : ∃ a b, Dat y a ∧ DatL ys b ∧ cs = a ++ b := by simp only [DatL] at h; exact h
theorem datL_nil {cs : List V} (h : DatL [] cs) : cs = [] := by simp only [DatL] at h; exact h
theorem dat_st {ys : List Ty} {cs : List V} (h : Dat (.st ys) cs) : DatL ys cs := by simp only [Dat] at h; exact h
def rgI (n : Int) : Prop := -9223372036854775808 ≤ n ∧ n ≤ 9223372036854775807
theorem rg_of {n : Int} (h : (Lit.int .i64 n).wf = true) : rgI n := by
  simp only [Lit.wf, IntKind.min, IntKind.max, IntKind.bits, IntKind.signed, Bool.and_eq_true, decide_eq_true_eq] at h
  exact ⟨h.1, h.2⟩
theorem datI {cs : List V} (h : Dat (.int .i64) cs) : ∃ n, cs = [.sc (.int .i64 n)] ∧ rgI n := by
  simp only [Dat] at h
  obtain ⟨n, h1, h2⟩ := h
  exact ⟨n, h2, rg_of h1⟩
theorem datB {cs : List V} (h : Dat .bool cs) : ∃ b, cs = [.sc (.bool b)] := by simp only [Dat] at h; exact h
theorem datS {cs : List V} (h : Dat .str cs) : ∃ s : ByteArray, cs = [.sc (.string s)] ∧ s.size ≤ maxLen := by
  simp only [Dat] at h
  obtain ⟨n, h1, h2⟩ := h
  exact ⟨n, h2, h1⟩
theorem choose_row {α : Type} {f : α → List V} {p : α → Prop} : ∀ {xs : List (List V)}, (∀ x, x ∈ xs → ∃ d, x = f d ∧ p d) → ∃ ds : List α, xs = ds.map f ∧ ∀ d, d ∈ ds → p d
  | [], _ => ⟨[], rfl, by simp⟩
  | x :: xs, h => by
    obtain ⟨d, rfl, hd⟩ := h x (by simp)
    obtain ⟨ds, rfl, hds⟩ := choose_row (xs := xs) fun y hy => h y (by simp [hy])
    exact ⟨d :: ds, rfl, by intro y hy; rcases List.mem_cons.1 hy with rfl | hy; exact hd; exact hds y hy⟩
theorem datRow {α : Type} {y : Ty} {f : α → List V} {p : α → Prop} (hf : ∀ cs, Dat y cs → ∃ d, cs = f d ∧ p d) {cs : List V} (h : Dat (.sl y) cs) :
    ∃ ds : List α, cs = [.sl 0 y.cells ds.length (ds.flatMap f)] ∧ ds.length ≤ maxLen ∧ ∀ d, d ∈ ds → p d := by
  simp only [Dat] at h
  obtain ⟨xs, h1, h2, rfl⟩ := h
  obtain ⟨ds, rfl, h3⟩ := choose_row (f := f) (p := p) (xs := xs) fun x hx => hf x (h2 x hx)
  exact ⟨ds, by simp [List.flatMap_def], by simpa using h1, h3⟩
def rgInts (xs : List Int) : Prop := ∀ x, x ∈ xs → rgI x
def rgS {α : Type} (f : α → Prop) (xs : List α) : Prop := ∀ x, x ∈ xs → f x
theorem datInts {cs : List V} (h : Dat (.sl (.int .i64)) cs) : ∃ xs : List Int, cs = [.sl 0 1 xs.length (ints xs)] ∧ lnInts xs ∧ rgInts xs := by
  obtain ⟨ds, h1, h2, h3⟩ := datRow (f := fun n => [V.sc (.int .i64 n)]) (p := rgI) (fun cs h => datI h) h
  refine ⟨ds, ?_, h2, h3⟩
  have e : ds.flatMap (fun n => [V.sc (.int .i64 n)]) = ints ds := by
    clear h1 h2 h3
    induction ds with
    | nil => rfl
    | cons a ds ih => rw [List.flatMap_cons, ih]; rfl
  rw [h1, e]
  rfl
def tyDeal : Ty := .st [.bool, .int .i64, .sl (.int .i64)]
def rgDeal (d : Deal) : Prop := rgI d.version ∧ rgInts d.tags
theorem datDeal {cs : List V} (h : Dat tyDeal cs) : ∃ x : Deal, cs = eDeal x ∧ lnDeal x ∧ rgDeal x := by
  have h0 := dat_st h
  obtain ⟨a0, r0, g0, h1, e0⟩ := datL_cons h0
  obtain ⟨x0, rfl⟩ := datB g0
  obtain ⟨a1, r1, g1, h2, e1⟩ := datL_cons h1
  obtain ⟨x1, rfl, w1⟩ := datI g1
  obtain ⟨a2, r2, g2, h3, e2⟩ := datL_cons h2
  obtain ⟨x2, rfl, l2, w2⟩ := datInts g2
  have z := datL_nil h3
  subst z; subst e2; subst e1; subst e0
  exact ⟨⟨x0, x1, x2⟩, rfl, l2, ⟨w1, w2⟩⟩
def tyBox : Ty := .st [.int .i64, .sl (.int .i64), .sl (.int .i64), .bool]
def rgBox (d : Box) : Prop := rgI d.limit ∧ rgInts d.drops ∧ rgInts d.strips
theorem datBox {cs : List V} (h : Dat tyBox cs) : ∃ x : Box, cs = eBox x ∧ lnBox x ∧ rgBox x := by
  have h0 := dat_st h
  obtain ⟨a0, r0, g0, h1, e0⟩ := datL_cons h0
  obtain ⟨x0, rfl, w0⟩ := datI g0
  obtain ⟨a1, r1, g1, h2, e1⟩ := datL_cons h1
  obtain ⟨x1, rfl, l1, w1⟩ := datInts g1
  obtain ⟨a2, r2, g2, h3, e2⟩ := datL_cons h2
  obtain ⟨x2, rfl, l2, w2⟩ := datInts g2
  obtain ⟨a3, r3, g3, h4, e3⟩ := datL_cons h3
  obtain ⟨x3, rfl⟩ := datB g3
  have z := datL_nil h4
  subst z; subst e3; subst e2; subst e1; subst e0
  exact ⟨⟨x0, x1, x2, x3⟩, rfl, ⟨l1, l2⟩, ⟨w0, w1, w2⟩⟩
theorem datBoxS {cs : List V} (h : Dat (.sl tyBox) cs) : ∃ xs : List Box, cs = [.sl 0 4 xs.length (xs.flatMap eBox)] ∧ lnS lnBox xs ∧ rgS rgBox xs := by
  obtain ⟨ds, h1, h2, h3⟩ := datRow (f := eBox) (p := fun x => lnBox x ∧ rgBox x) (fun cs h => datBox h) h
  exact ⟨ds, h1, ⟨h2, fun j hj => (h3 _ (List.getElem_mem hj)).1⟩, fun x hx => (h3 x hx).2⟩
def tyDialed : Ty := .st [tyDeal, .int .i64, .sl (.int .i64)]
def rgDialed (d : Dialed) : Prop := rgDeal d.deal ∧ rgI d.tries ∧ rgInts d.up
theorem datDialed {cs : List V} (h : Dat tyDialed cs) : ∃ x : Dialed, cs = eDialed x ∧ lnDialed x ∧ rgDialed x := by
  have h0 := dat_st h
  obtain ⟨a0, r0, g0, h1, e0⟩ := datL_cons h0
  obtain ⟨x0, rfl, l0, w0⟩ := datDeal g0
  obtain ⟨a1, r1, g1, h2, e1⟩ := datL_cons h1
  obtain ⟨x1, rfl, w1⟩ := datI g1
  obtain ⟨a2, r2, g2, h3, e2⟩ := datL_cons h2
  obtain ⟨x2, rfl, l2, w2⟩ := datInts g2
  have z := datL_nil h3
  subst z; subst e2; subst e1; subst e0
  exact ⟨⟨x0, x1, x2⟩, rfl, ⟨l0, l2⟩, ⟨w0, w1, w2⟩⟩
theorem datDialedS {cs : List V} (h : Dat (.sl tyDialed) cs) : ∃ xs : List Dialed, cs = [.sl 0 5 xs.length (xs.flatMap eDialed)] ∧ lnS lnDialed xs ∧ rgS rgDialed xs := by
  obtain ⟨ds, h1, h2, h3⟩ := datRow (f := eDialed) (p := fun x => lnDialed x ∧ rgDialed x) (fun cs h => datDialed h) h
  exact ⟨ds, h1, ⟨h2, fun j hj => (h3 _ (List.getElem_mem hj)).1⟩, fun x hx => (h3 x hx).2⟩
def tyRollout : Ty := .st [.int .i64, .sl (.int .i64), .int .i64, .bool]
def rgRollout (d : Rollout) : Prop := rgI d.version ∧ rgInts d.stages ∧ rgI d.pos
theorem datRollout {cs : List V} (h : Dat tyRollout cs) : ∃ x : Rollout, cs = eRollout x ∧ lnRollout x ∧ rgRollout x := by
  have h0 := dat_st h
  obtain ⟨a0, r0, g0, h1, e0⟩ := datL_cons h0
  obtain ⟨x0, rfl, w0⟩ := datI g0
  obtain ⟨a1, r1, g1, h2, e1⟩ := datL_cons h1
  obtain ⟨x1, rfl, l1, w1⟩ := datInts g1
  obtain ⟨a2, r2, g2, h3, e2⟩ := datL_cons h2
  obtain ⟨x2, rfl, w2⟩ := datI g2
  obtain ⟨a3, r3, g3, h4, e3⟩ := datL_cons h3
  obtain ⟨x3, rfl⟩ := datB g3
  have z := datL_nil h4
  subst z; subst e3; subst e2; subst e1; subst e0
  exact ⟨⟨x0, x1, x2, x3⟩, rfl, l1, ⟨w0, w1, w2⟩⟩
def tyEndpoint : Ty := .st [.sl (.int .i64), .sl (.int .i64), .sl tyBox, .int .i64]
def rgEndpoint (d : Endpoint) : Prop := rgInts d.versions ∧ rgInts d.tags ∧ rgS rgBox d.path ∧ rgI d.cls
theorem datEndpoint {cs : List V} (h : Dat tyEndpoint cs) : ∃ x : Endpoint, cs = eEndpoint x ∧ lnEndpoint x ∧ rgEndpoint x := by
  have h0 := dat_st h
  obtain ⟨a0, r0, g0, h1, e0⟩ := datL_cons h0
  obtain ⟨x0, rfl, l0, w0⟩ := datInts g0
  obtain ⟨a1, r1, g1, h2, e1⟩ := datL_cons h1
  obtain ⟨x1, rfl, l1, w1⟩ := datInts g1
  obtain ⟨a2, r2, g2, h3, e2⟩ := datL_cons h2
  obtain ⟨x2, rfl, l2, w2⟩ := datBoxS g2
  obtain ⟨a3, r3, g3, h4, e3⟩ := datL_cons h3
  obtain ⟨x3, rfl, w3⟩ := datI g3
  have z := datL_nil h4
  subst z; subst e3; subst e2; subst e1; subst e0
  exact ⟨⟨x0, x1, x2, x3⟩, rfl, ⟨l0, l1, l2⟩, ⟨w0, w1, w2, w3⟩⟩
theorem datEndpointS {cs : List V} (h : Dat (.sl tyEndpoint) cs) : ∃ xs : List Endpoint, cs = [.sl 0 4 xs.length (xs.flatMap eEndpoint)] ∧ lnS lnEndpoint xs ∧ rgS rgEndpoint xs := by
  obtain ⟨ds, h1, h2, h3⟩ := datRow (f := eEndpoint) (p := fun x => lnEndpoint x ∧ rgEndpoint x) (fun cs h => datEndpoint h) h
  exact ⟨ds, h1, ⟨h2, fun j hj => (h3 _ (List.getElem_mem hj)).1⟩, fun x hx => (h3 x hx).2⟩
def tyLogged : Ty := .st [.int .i64, .int .i64, .bool, tyDialed]
def rgLogged (d : Logged) : Prop := rgI d.fin ∧ rgI d.tick ∧ rgDialed d.dialed
theorem datLogged {cs : List V} (h : Dat tyLogged cs) : ∃ x : Logged, cs = eLogged x ∧ lnLogged x ∧ rgLogged x := by
  have h0 := dat_st h
  obtain ⟨a0, r0, g0, h1, e0⟩ := datL_cons h0
  obtain ⟨x0, rfl, w0⟩ := datI g0
  obtain ⟨a1, r1, g1, h2, e1⟩ := datL_cons h1
  obtain ⟨x1, rfl, w1⟩ := datI g1
  obtain ⟨a2, r2, g2, h3, e2⟩ := datL_cons h2
  obtain ⟨x2, rfl⟩ := datB g2
  obtain ⟨a3, r3, g3, h4, e3⟩ := datL_cons h3
  obtain ⟨x3, rfl, l3, w3⟩ := datDialed g3
  have z := datL_nil h4
  subst z; subst e3; subst e2; subst e1; subst e0
  exact ⟨⟨x0, x1, x2, x3⟩, rfl, l3, ⟨w0, w1, w3⟩⟩
theorem datLoggedS {cs : List V} (h : Dat (.sl tyLogged) cs) : ∃ xs : List Logged, cs = [.sl 0 8 xs.length (xs.flatMap eLogged)] ∧ lnS lnLogged xs ∧ rgS rgLogged xs := by
  obtain ⟨ds, h1, h2, h3⟩ := datRow (f := eLogged) (p := fun x => lnLogged x ∧ rgLogged x) (fun cs h => datLogged h) h
  exact ⟨ds, h1, ⟨h2, fun j hj => (h3 _ (List.getElem_mem hj)).1⟩, fun x hx => (h3 x hx).2⟩
def tyWorld : Ty := .st [.sl (.int .i64), .sl (.int .i64), .int .i64, .sl tyEndpoint, tyRollout, .int .i64, .int .i64, .sl tyDialed, .sl tyLogged, .int .i64, .int .i64, .int .i64]
def rgWorld (d : World) : Prop := rgInts d.server ∧ rgInts d.tags ∧ rgI d.key ∧ rgS rgEndpoint d.ends ∧ rgRollout d.rollout ∧ rgI d.least ∧ rgI d.percent ∧ rgS rgDialed d.stage ∧ rgS rgLogged d.log ∧ rgI d.now ∧ rgI d.hurt ∧ rgI d.reached
theorem datWorld {cs : List V} (h : Dat tyWorld cs) : ∃ x : World, cs = eWorld x ∧ lnWorld x ∧ rgWorld x := by
  have h0 := dat_st h
  obtain ⟨a0, r0, g0, h1, e0⟩ := datL_cons h0
  obtain ⟨x0, rfl, l0, w0⟩ := datInts g0
  obtain ⟨a1, r1, g1, h2, e1⟩ := datL_cons h1
  obtain ⟨x1, rfl, l1, w1⟩ := datInts g1
  obtain ⟨a2, r2, g2, h3, e2⟩ := datL_cons h2
  obtain ⟨x2, rfl, w2⟩ := datI g2
  obtain ⟨a3, r3, g3, h4, e3⟩ := datL_cons h3
  obtain ⟨x3, rfl, l3, w3⟩ := datEndpointS g3
  obtain ⟨a4, r4, g4, h5, e4⟩ := datL_cons h4
  obtain ⟨x4, rfl, l4, w4⟩ := datRollout g4
  obtain ⟨a5, r5, g5, h6, e5⟩ := datL_cons h5
  obtain ⟨x5, rfl, w5⟩ := datI g5
  obtain ⟨a6, r6, g6, h7, e6⟩ := datL_cons h6
  obtain ⟨x6, rfl, w6⟩ := datI g6
  obtain ⟨a7, r7, g7, h8, e7⟩ := datL_cons h7
  obtain ⟨x7, rfl, l7, w7⟩ := datDialedS g7
  obtain ⟨a8, r8, g8, h9, e8⟩ := datL_cons h8
  obtain ⟨x8, rfl, l8, w8⟩ := datLoggedS g8
  obtain ⟨a9, r9, g9, h10, e9⟩ := datL_cons h9
  obtain ⟨x9, rfl, w9⟩ := datI g9
  obtain ⟨a10, r10, g10, h11, e10⟩ := datL_cons h10
  obtain ⟨x10, rfl, w10⟩ := datI g10
  obtain ⟨a11, r11, g11, h12, e11⟩ := datL_cons h11
  obtain ⟨x11, rfl, w11⟩ := datI g11
  have z := datL_nil h12
  subst z; subst e11; subst e10; subst e9; subst e8; subst e7; subst e6; subst e5; subst e4; subst e3; subst e2; subst e1; subst e0
  exact ⟨⟨x0, x1, x2, x3, x4, x5, x6, x7, x8, x9, x10, x11⟩, rfl, ⟨l0, l1, l3, l4, l7, l8⟩, ⟨w0, w1, w2, w3, w4, w5, w6, w7, w8, w9, w10, w11⟩⟩
def tyEvent : Ty := .st [.int .i64, .int .i64, tyBox]
def rgEvent (d : Event) : Prop := rgI d.kind ∧ rgI d.n ∧ rgBox d.box
theorem datEvent {cs : List V} (h : Dat tyEvent cs) : ∃ x : Event, cs = eEvent x ∧ lnEvent x ∧ rgEvent x := by
  have h0 := dat_st h
  obtain ⟨a0, r0, g0, h1, e0⟩ := datL_cons h0
  obtain ⟨x0, rfl, w0⟩ := datI g0
  obtain ⟨a1, r1, g1, h2, e1⟩ := datL_cons h1
  obtain ⟨x1, rfl, w1⟩ := datI g1
  obtain ⟨a2, r2, g2, h3, e2⟩ := datL_cons h2
  obtain ⟨x2, rfl, l2, w2⟩ := datBox g2
  have z := datL_nil h3
  subst z; subst e2; subst e1; subst e0
  exact ⟨⟨x0, x1, x2⟩, rfl, l2, ⟨w0, w1, w2⟩⟩
theorem datEventS {cs : List V} (h : Dat (.sl tyEvent) cs) : ∃ xs : List Event, cs = [.sl 0 6 xs.length (xs.flatMap eEvent)] ∧ lnS lnEvent xs ∧ rgS rgEvent xs := by
  obtain ⟨ds, h1, h2, h3⟩ := datRow (f := eEvent) (p := fun x => lnEvent x ∧ rgEvent x) (fun cs h => datEvent h) h
  exact ⟨ds, h1, ⟨h2, fun j hj => (h3 _ (List.getElem_mem hj)).1⟩, fun x hx => (h3 x hx).2⟩

theorem argI {v : V} (h : ArgV (.int .i64) v) : ∃ n, v = I n ∧ rgI n := by
  obtain ⟨c, hd, rfl⟩ := h
  obtain ⟨n, e, w⟩ := datI hd
  cases e
  exact ⟨n, rfl, w⟩
theorem argB {v : V} (h : ArgV .bool v) : ∃ b, v = B b := by
  obtain ⟨c, hd, rfl⟩ := h
  obtain ⟨n, e⟩ := datB hd
  cases e
  exact ⟨n, rfl⟩
theorem argS {v : V} (h : ArgV .str v) : ∃ s : ByteArray, v = S s ∧ s.size ≤ maxLen := by
  obtain ⟨c, hd, rfl⟩ := h
  obtain ⟨n, e, w⟩ := datS hd
  cases e
  exact ⟨n, rfl, w⟩
theorem argInts {v : V} (h : ArgV (.sl (.int .i64)) v) : ∃ xs : List Int, v = .sl 1 1 xs.length (ints xs) ∧ lnInts xs ∧ rgInts xs := by
  obtain ⟨c, hd, rfl⟩ := h
  obtain ⟨xs, e, w⟩ := datInts hd
  cases e
  exact ⟨xs, rfl, w⟩
theorem argDeal {v : V} (h : ArgV tyDeal v) : ∃ x : Deal, v = arg (eDeal x) ∧ lnDeal x ∧ rgDeal x := by
  obtain ⟨cs, hd, rfl⟩ := h
  obtain ⟨x, rfl, w⟩ := datDeal hd
  exact ⟨x, rfl, w⟩
theorem argBox {v : V} (h : ArgV tyBox v) : ∃ x : Box, v = arg (eBox x) ∧ lnBox x ∧ rgBox x := by
  obtain ⟨cs, hd, rfl⟩ := h
  obtain ⟨x, rfl, w⟩ := datBox hd
  exact ⟨x, rfl, w⟩
theorem argBoxS {v : V} (h : ArgV (.sl tyBox) v) : ∃ xs : List Box, v = .sl 1 4 xs.length (xs.flatMap eBox) ∧ lnS lnBox xs ∧ rgS rgBox xs := by
  obtain ⟨c, hd, rfl⟩ := h
  obtain ⟨xs, e, w⟩ := datBoxS hd
  cases e
  exact ⟨xs, rfl, w⟩
theorem argDialed {v : V} (h : ArgV tyDialed v) : ∃ x : Dialed, v = arg (eDialed x) ∧ lnDialed x ∧ rgDialed x := by
  obtain ⟨cs, hd, rfl⟩ := h
  obtain ⟨x, rfl, w⟩ := datDialed hd
  exact ⟨x, rfl, w⟩
theorem argDialedS {v : V} (h : ArgV (.sl tyDialed) v) : ∃ xs : List Dialed, v = .sl 1 5 xs.length (xs.flatMap eDialed) ∧ lnS lnDialed xs ∧ rgS rgDialed xs := by
  obtain ⟨c, hd, rfl⟩ := h
  obtain ⟨xs, e, w⟩ := datDialedS hd
  cases e
  exact ⟨xs, rfl, w⟩
theorem argRollout {v : V} (h : ArgV tyRollout v) : ∃ x : Rollout, v = arg (eRollout x) ∧ lnRollout x ∧ rgRollout x := by
  obtain ⟨cs, hd, rfl⟩ := h
  obtain ⟨x, rfl, w⟩ := datRollout hd
  exact ⟨x, rfl, w⟩
theorem argEndpoint {v : V} (h : ArgV tyEndpoint v) : ∃ x : Endpoint, v = arg (eEndpoint x) ∧ lnEndpoint x ∧ rgEndpoint x := by
  obtain ⟨cs, hd, rfl⟩ := h
  obtain ⟨x, rfl, w⟩ := datEndpoint hd
  exact ⟨x, rfl, w⟩
theorem argEndpointS {v : V} (h : ArgV (.sl tyEndpoint) v) : ∃ xs : List Endpoint, v = .sl 1 4 xs.length (xs.flatMap eEndpoint) ∧ lnS lnEndpoint xs ∧ rgS rgEndpoint xs := by
  obtain ⟨c, hd, rfl⟩ := h
  obtain ⟨xs, e, w⟩ := datEndpointS hd
  cases e
  exact ⟨xs, rfl, w⟩
theorem argLogged {v : V} (h : ArgV tyLogged v) : ∃ x : Logged, v = arg (eLogged x) ∧ lnLogged x ∧ rgLogged x := by
  obtain ⟨cs, hd, rfl⟩ := h
  obtain ⟨x, rfl, w⟩ := datLogged hd
  exact ⟨x, rfl, w⟩
theorem argLoggedS {v : V} (h : ArgV (.sl tyLogged) v) : ∃ xs : List Logged, v = .sl 1 8 xs.length (xs.flatMap eLogged) ∧ lnS lnLogged xs ∧ rgS rgLogged xs := by
  obtain ⟨c, hd, rfl⟩ := h
  obtain ⟨xs, e, w⟩ := datLoggedS hd
  cases e
  exact ⟨xs, rfl, w⟩
theorem argWorld {v : V} (h : ArgV tyWorld v) : ∃ x : World, v = arg (eWorld x) ∧ lnWorld x ∧ rgWorld x := by
  obtain ⟨cs, hd, rfl⟩ := h
  obtain ⟨x, rfl, w⟩ := datWorld hd
  exact ⟨x, rfl, w⟩
theorem argEvent {v : V} (h : ArgV tyEvent v) : ∃ x : Event, v = arg (eEvent x) ∧ lnEvent x ∧ rgEvent x := by
  obtain ⟨cs, hd, rfl⟩ := h
  obtain ⟨x, rfl, w⟩ := datEvent hd
  exact ⟨x, rfl, w⟩
theorem argEventS {v : V} (h : ArgV (.sl tyEvent) v) : ∃ xs : List Event, v = .sl 1 6 xs.length (xs.flatMap eEvent) ∧ lnS lnEvent xs ∧ rgS rgEvent xs := by
  obtain ⟨c, hd, rfl⟩ := h
  obtain ⟨xs, e, w⟩ := datEventS hd
  cases e
  exact ⟨xs, rfl, w⟩
end Go.Eng.T

namespace Go.Eng.T
theorem szl_lt {n : Nat} {l : Int} (h : l < n) : szl n l = -1 := by unfold szl; rw [if_pos h]
theorem szl_ge {n : Nat} {l : Int} (h : ¬ l < n) : szl n l = l - n := by unfold szl; rw [if_neg h]
theorem mcL_sz {α : Type} {mc sz : α → Nat} (c : Nat) (h : ∀ x, mc x ≤ c * (1 + sz x)) (xs : List α) : mcL mc xs ≤ c * sumF sz xs := by
  induction xs with
  | nil => simp [mcL]
  | cons x r ih =>
    have := h x
    simp only [mcL, sumF, List.map_cons, List.sum_cons, List.length_cons] at *
    rw [Nat.mul_add] at *
    rw [Nat.mul_add] at *
    rw [Nat.mul_add]
    omega
theorem mc_szBoxS (xs : List Box) : mcL mcBox xs ≤ 2 * sumF szBox xs := mcL_sz 2 (fun x => by unfold mcBox szBox; omega) xs
theorem mc_szEndpoint (x : Endpoint) : mcEndpoint x ≤ 2 * (1 + szEndpoint x) := by have := mc_szBoxS x.path; unfold mcEndpoint szEndpoint; omega
theorem mc_szEndpointS (xs : List Endpoint) : mcL mcEndpoint xs ≤ 2 * sumF szEndpoint xs := mcL_sz 2 mc_szEndpoint xs
theorem mc_szDialedS (xs : List Dialed) : mcL mcDialed xs ≤ 3 * sumF szDialed xs := mcL_sz 3 (fun x => by unfold mcDialed szDialed szDeal; omega) xs
theorem mc_szLoggedS (xs : List Logged) : mcL mcLogged xs ≤ 6 * sumF szLogged xs := mcL_sz 6 (fun x => by unfold mcLogged szLogged szDialed szDeal; omega) xs
theorem mc_szEventS (xs : List Event) : mcL mcEvent xs ≤ 4 * sumF szEvent xs := mcL_sz 4 (fun x => by unfold mcEvent szEvent szBox; omega) xs
theorem mc_szWorld (x : World) : mcWorld x ≤ 6 * szWorld x := by
  have := mc_szEndpointS x.ends
  have := mc_szDialedS x.stage
  have := mc_szLoggedS x.log
  unfold mcWorld szWorld szRollout; omega
theorem mc_szBox (x : Box) : mcTBox x ≤ szBox x := by unfold mcTBox szBox; omega
theorem mc_szDialed (x : Dialed) : mcTDialed x ≤ szDialed x := by unfold mcTDialed szDialed szDeal; omega
theorem mc_szDeal (x : Deal) : mcDeal x ≤ szDeal x := by unfold mcDeal szDeal; omega
theorem mc_szEvent (x : Event) : mcTEvent x ≤ szEvent x := by unfold mcTEvent szEvent szBox; omega
theorem mc_szRollout (x : Rollout) : mcRollout x ≤ szRollout x := by unfold mcRollout szRollout; omega
theorem mc_szEndpoint' (x : Endpoint) : mcTEndpoint x ≤ 2 * szEndpoint x := by have := mc_szBoxS x.path; unfold mcTEndpoint szEndpoint; omega
/-- sizes of a world's parts -/
theorem world_log {w : World} (h : szWorld w ≤ 4194304) : w.log.length ≤ 4194304 := by have := size_len (f := szLogged) (xs := w.log); unfold szWorld at h; omega
theorem world_ends {w : World} (h : szWorld w ≤ 4194304) : w.ends.length ≤ 4194304 := by have := size_len (f := szEndpoint) (xs := w.ends); unfold szWorld at h; omega
theorem world_stage {w : World} (h : szWorld w ≤ 4194304) : w.stage.length ≤ 4194304 := by have := size_len (f := szDialed) (xs := w.stage); unfold szWorld at h; omega
theorem beqI (a b : Int) : (a == b) = decide (a = b) := by by_cases h : a = b <;> simp [h]
end Go.Eng.T

namespace Go.Eng.T
set_option maxRecDepth 20000

abbrev InR (a b c : Int) : Prop := b ≤ a ∧ a ≤ c
def signalOf (g b l p : Int) : Int :=
  if ¬ InR g 0 10000 ∨ ¬ InR b 0 10000 ∨ ¬ InR l 1 10000 ∨ ¬ InR p 0 100 then 0
  else if 100 * b > p * l ∧ 100 * b > p * (g + b) then 2
  else if g + b < l then 0
  else if 100 * b ≤ p * (g + b) then 1
  else 2
abbrev SignalOfS (R : Rel) : Prop := ∀ g b l p : Int, R [I g, I b, I l, I p] [] (I (signalOf g b l p)) []
theorem mul_small {p x : Int} (h1 : 0 ≤ p) (h2 : p ≤ 100) (h3 : 0 ≤ x) (h4 : x ≤ 20000) : IntKind.i64.wrap (p * x) = p * x := by
  have a1 : 0 ≤ p * x := Int.mul_nonneg h1 h3
  have a2 : p * x ≤ 100 * 20000 := Int.mul_le_mul h2 h4 h3 (by omega)
  exact wrap_id (by omega) (by omega)
theorem sSignalOf_b (D : Dn) (hI : InS (D gspec_l1In)) : SignalOfS (Body D sspec_SignalOf) := by
  intro g b l p
  simp -implicitDefEqProofs
  refine callQ_of (hI _ _ _) ?_
  by_cases h1 : InR g 0 10000
  rotate_left
  · simp -implicitDefEqProofs [h1, signalOf]
  simp -implicitDefEqProofs [h1]
  refine callQ_of (hI _ _ _) ?_
  by_cases h2 : InR b 0 10000
  rotate_left
  · simp -implicitDefEqProofs [h2, signalOf]
  simp -implicitDefEqProofs [h2]
  refine callQ_of (hI _ _ _) ?_
  by_cases h3 : InR l 1 10000
  rotate_left
  · simp -implicitDefEqProofs [h3, signalOf]
  simp -implicitDefEqProofs [h3]
  refine callQ_of (hI _ _ _) ?_
  by_cases h4 : InR p 0 100
  rotate_left
  · simp -implicitDefEqProofs [h4, signalOf]
  have w1 : IntKind.i64.wrap (100 * b) = 100 * b := wrap_id (by omega) (by omega)
  have w2 := mul_small h4.1 h4.2 (x := l) (by omega) (by omega)
  have w3 := mul_small h4.1 h4.2 (x := g + b) (by omega) (by omega)
  have w4 : IntKind.i64.wrap (g + b) = g + b := wrap_id (by omega) (by omega)
  have e : signalOf g b l p = if 100 * b > p * l ∧ 100 * b > p * (g + b) then 2 else if g + b < l then 0 else if 100 * b ≤ p * (g + b) then 1 else 2 := by unfold signalOf; rw [if_neg (by simp [h1, h2, h3, h4])]
  rw [e]
  clear e
  by_cases c1 : p * l < 100 * b
  · by_cases c2 : p * (g + b) < 100 * b
    · simp -implicitDefEqProofs [h4, w1, w2, w3, w4, c1, c2]
    · have c3 : 100 * b ≤ p * (g + b) := by omega
      by_cases c4 : g + b < l
      · simp -implicitDefEqProofs [h4, w1, w2, w3, w4, c1, c2, c3, c4]
      · simp -implicitDefEqProofs [h4, w1, w2, w3, w4, c1, c2, c3, c4]
  · by_cases c4 : g + b < l
    · simp -implicitDefEqProofs [h4, w1, w2, w3, w4, c1, c4]
    · by_cases c3 : 100 * b ≤ p * (g + b)
      · simp -implicitDefEqProofs [h4, w1, w2, w3, w4, c1, c3, c4]
      · simp -implicitDefEqProofs [h4, w1, w2, w3, w4, c1, c3, c4]
end Go.Eng.T

namespace Go.Eng.T
set_option maxRecDepth 20000

/-- where p holds first (from i on), or -1 -/
def idxP {α : Type} (p : α → Bool) : List α → Int → Int
  | [], _ => -1
  | x :: r, i => if p x then i else idxP p r (i + 1)
theorem idxP_drop {α : Type} {p : α → Bool} {xs : List α} {j : Nat} (h : j < xs.length) : idxP p (xs.drop j) j = if p xs[j] then (j : Int) else idxP p (xs.drop (j + 1)) ((j : Int) + 1) := by
  rw [List.drop_eq_getElem_cons h]; rfl
theorem idxP_end {α : Type} {p : α → Bool} {xs : List α} {j : Nat} (h : xs.length ≤ j) : idxP p (xs.drop j) j = -1 := by rw [List.drop_eq_nil_of_le h]; rfl
theorem idxP_ge {α : Type} {p : α → Bool} : ∀ {xs : List α} {i : Int}, 0 ≤ i → (0 ≤ idxP p xs i) = (xs.any p = true)
  | [], i, _ => by simp [idxP]
  | x :: r, i, h => by
    by_cases hp : p x = true
    · simp [idxP, hp, h]
    · have := idxP_ge (p := p) (xs := r) (i := i + 1) (by omega)
      simp [idxP, hp] at *
      exact this

/-- what is captured goes over as it is -/
def CapOk (caps : List V) : Prop := (∀ (H : Hp) (n : Nat), ownArgs H n (caps.map fun v => (false, v)) = some []) ∧ (∀ (H Hr : Hp) (n : Nat), callArgs H Hr n (caps.map fun v => (false, v)) = some caps) ∧ ∀ H : Hp, ro2L H caps = some caps
theorem capOk_nil : CapOk [] := ⟨fun _ _ => rfl, fun _ _ _ => rfl, fun _ => rfl⟩
theorem capOk_cons {v : V} {r : List V} (hv : ∀ H, ro H v = some v) (hv2 : ∀ H, ro2 H v = some v) (h : CapOk r) : CapOk (v :: r) :=
  ⟨fun H n => h.1 H n, fun H Hr n => by simp only [List.map_cons, callArgs, hv, h.2.1], fun H => by simp only [ro2L, hv2, h.2.2]⟩
theorem capOk_int {a : Int} {r : List V} (h : CapOk r) : CapOk (.rptr 1 [.sc (.int .i64 a)] 0 :: r) := capOk_cons (fun H => by simp) (fun H => by simp) h

abbrev IndexFuncS (D : Dn) (R : Rel) : Prop := ∀ (xs : List Int) (g : Nat) (caps : List V) (p : Int → Bool), xs.length ≤ maxLen → CapOk caps → (∀ x : Int, D g (I x :: caps) [] (B (p x)) []) →
  R [.sl 1 1 xs.length (ints xs), .fn g caps] [] (I (idxP p xs 0)) []
theorem IndexFunc_b (D : Dn) : IndexFuncS D (Body D sslices_IndexFunc___int_int_) := by
  intro xs g caps p hl hc hp
  unfold maxLen at hl
  simp -implicitDefEqProofs
  refine swp_loop (fun k s => ∃ j, j + k = xs.length ∧ idxP p xs 0 = idxP p (xs.drop j) j ∧ s = ⟨[.sl 1 1 xs.length (ints xs), .fn g caps, .undef, .undef, .sc (.int .i64 xs.length), .sc (.int .i64 j), .undef, .undef], []⟩) ?_ xs.length _ ⟨0, by simp, by simp, by simp⟩
  intro k s ⟨j, hj, hi, hs⟩
  subst hs
  by_cases hjn : j < xs.length
  · have hw : IntKind.i64.wrap ((j : Int) + 1) = (j + 1 : Nat) := by rw [wrap_id (by omega) (by omega)]; simp
    rw [idxP_drop hjn] at hi
    simp -implicitDefEqProofs [hjn, hc.1, hc.2.1]
    refine callQ_of (hp xs[j]) ?_
    by_cases he : p xs[j] = true
    · rw [if_pos he] at hi
      simp -implicitDefEqProofs [he, hi]
    · rw [if_neg he] at hi
      simp -implicitDefEqProofs [he]
      exact ⟨k - 1, by omega, j + 1, by omega, by simpa using hi, by simp [hw]⟩
  · rw [idxP_end (by omega)] at hi
    simp -implicitDefEqProofs [hjn, hi]
abbrev ContainsFuncS (D : Dn) (R : Rel) : Prop := ∀ (xs : List Int) (g : Nat) (caps : List V) (p : Int → Bool), xs.length ≤ maxLen → CapOk caps → (∀ x : Int, D g (I x :: caps) [] (B (p x)) []) →
  R [.sl 1 1 xs.length (ints xs), .fn g caps] [] (B (xs.any p)) []
theorem ContainsFunc_b (D : Dn) (hI : IndexFuncS D (D gslices_IndexFunc___int_int_)) : ContainsFuncS D (Body D sslices_ContainsFunc___int_int_) := by
  intro xs g caps p hl hc hp
  simp -implicitDefEqProofs [hc.2.2]
  refine callQ_of (hI xs g caps p hl hc hp) ?_
  have e : decide (0 ≤ idxP p xs 0) = xs.any p := by rw [Bool.eq_iff_iff]; simp only [decide_eq_true_eq]; rw [idxP_ge (by omega)]
  simp -implicitDefEqProofs [e]

def allIn (xs : List Int) (lo hi : Int) : Bool := xs.all fun x => decide (InR x lo hi)
abbrev areNumbersS (R : Rel) : Prop := ∀ (xs : List Int) (lo hi : Int), xs.length ≤ maxLen → R [.sl 1 1 xs.length (ints xs), I lo, I hi] [] (B (allIn xs lo hi)) []
abbrev areNumbers1S (R : Rel) : Prop := ∀ (x lo hi : Int), R [I x, .rptr 1 [I lo] 0, .rptr 1 [I hi] 0] [] (B (!decide (InR x lo hi))) []
theorem areNumbers1_b (D : Dn) (hI : InS (D gimpl_InRange)) : areNumbers1S (Body D simpl_areNumbers_1) := by
  intro x lo hi
  simp -implicitDefEqProofs
  refine callQ_of (hI _ _ _) ?_
  simp -implicitDefEqProofs
theorem areNumbers_b (D : Dn) (h1 : areNumbers1S (D gimpl_areNumbers_1)) (hC : ContainsFuncS D (D gslices_ContainsFunc___int_int_)) : areNumbersS (Body D simpl_areNumbers) := by
  intro xs lo hi hl
  simp -implicitDefEqProofs
  refine callQ_of (hC xs 266 _ (fun x => !decide (InR x lo hi)) hl (capOk_int (capOk_int capOk_nil)) (fun x => h1 x lo hi)) ?_
  have e : (xs.any fun x => !decide (InR x lo hi)) = !allIn xs lo hi := by unfold allIn; rw [List.all_eq_not_any_not]; simp
  generalize (xs.any fun x => !decide (InR x lo hi)) = b at e ⊢
  subst e
  simp -implicitDefEqProofs
end Go.Eng.T

namespace Go.Eng.T
set_option maxRecDepth 20000

theorem iSignalOf_b (D : Dn) (hA : areNumbersS (D gimpl_areNumbers)) (hI : InS (D gimpl_InRange)) : SignalOfS (Body D simpl_SignalOf) := by
  intro g b l p
  simp -implicitDefEqProofs
  refine callQ_of (hA [g, b, l] 0 10000 (by unfold maxLen; simp)) ?_
  by_cases h1 : allIn [g, b, l] 0 10000 = true
  rotate_left
  · have e : signalOf g b l p = 0 := by
      unfold signalOf
      rw [if_pos]
      simp [allIn] at h1
      by_cases a : InR g 0 10000
      · by_cases c : InR b 0 10000
        · right; right; left; intro h; have := h1 a.1 a.2 c.1 c.2 (by omega); omega
        · exact .inr (.inl c)
      · exact .inl a
    simp -implicitDefEqProofs [h1, e]
  have h1' : InR g 0 10000 ∧ InR b 0 10000 ∧ InR l 0 10000 := by simpa [allIn] using h1
  by_cases h2 : l = 0
  · have e : signalOf g b l p = 0 := by unfold signalOf; rw [if_pos (by right; right; left; omega)]
    subst h2
    simp -implicitDefEqProofs [h1, e]
  simp -implicitDefEqProofs [h1, h2]
  refine callQ_of (hI _ _ _) ?_
  by_cases h4 : InR p 0 100
  rotate_left
  · simp -implicitDefEqProofs [h2, h4, signalOf]
  have w1 : IntKind.i64.wrap (100 * b) = 100 * b := wrap_id (by omega) (by omega)
  have w2 := mul_small h4.1 h4.2 (x := l) (by omega) (by omega)
  have w3 := mul_small h4.1 h4.2 (x := g + b) (by omega) (by omega)
  have w4 : IntKind.i64.wrap (g + b) = g + b := wrap_id (by omega) (by omega)
  have e : signalOf g b l p = if 100 * b > p * l ∧ 100 * b > p * (g + b) then 2 else if g + b < l then 0 else if 100 * b ≤ p * (g + b) then 1 else 2 := by unfold signalOf; rw [if_neg (by omega)]
  rw [e]
  clear e
  by_cases c1 : p * l < 100 * b
  · by_cases c2 : p * (g + b) < 100 * b
    · simp -implicitDefEqProofs [h2, h4, w1, w2, w3, w4, c1, c2]
    · have c3 : 100 * b ≤ p * (g + b) := by omega
      by_cases c4 : g + b < l
      · simp -implicitDefEqProofs [h2, h4, w1, w2, w3, w4, c1, c2, c3, c4]
      · simp -implicitDefEqProofs [h2, h4, w1, w2, w3, w4, c1, c2, c3, c4]
  · by_cases c4 : g + b < l
    · simp -implicitDefEqProofs [h2, h4, w1, w2, w3, w4, c1, c4]
    · by_cases c3 : 100 * b ≤ p * (g + b)
      · simp -implicitDefEqProofs [h2, h4, w1, w2, w3, w4, c1, c3, c4]
      · simp -implicitDefEqProofs [h2, h4, w1, w2, w3, w4, c1, c3, c4]

theorem iMaskedBy_b (D : Dn) (hB : IsBadDialS (D gimpl_isBad)) : MaskedByS (Body D simpl_MaskedBy) := by
  intro xs v hl hu
  unfold maxLen at hl
  simp -implicitDefEqProofs
  refine swp_loop (fun k s => ∃ j o, j + k = xs.length ∧ s = ⟨[.undef, .sc (.int .i64 v), .undef, .undef, .sc (.int .i64 (cntF (goodD v) (xs.take j))), .sc (.int .i64 (cntF (badD v) (xs.take j))), .undef, .sl 1 5 xs.length (xs.flatMap eDialed), .sc (.int .i64 xs.length), .sc (.int .i64 j), .undef, .undef, .undef], [o]⟩) ?_ xs.length _ ⟨0, .free, by simp, by simp [cntF]⟩
  intro k s ⟨j, o0, hj, hs⟩
  subst hs
  by_cases hjn : j < xs.length
  · have hw : IntKind.i64.wrap ((j : Int) + 1) = (j + 1 : Nat) := by rw [wrap_id (by omega) (by omega)]; simp
    have hc := cnt_step (f := goodD v) hjn
    have hb := cnt_step (f := badD v) hjn
    have hcl := cnt_le (f := goodD v) (xs := xs) (j := j) (by omega)
    have hbl := cnt_le (f := badD v) (xs := xs) (j := j) (by omega)
    have hw2 : IntKind.i64.wrap ((cntF (goodD v) (xs.take j) : Int) + 1) = (cntF (goodD v) (xs.take j) + 1 : Nat) := by rw [wrap_id (by omega) (by omega)]; simp
    have hw3 : IntKind.i64.wrap ((cntF (badD v) (xs.take j) : Int) + 1) = (cntF (badD v) (xs.take j) + 1 : Nat) := by rw [wrap_id (by omega) (by omega)]; simp
    simp -implicitDefEqProofs [hjn]
    refine callQ_of (hB xs[j] v (hu j hjn)) ?_
    by_cases hbd : badD v xs[j] = true
    · simp -implicitDefEqProofs [hbd]
      exact ⟨k - 1, by omega, j + 1, by omega, by rw [hc]; simp [goodD, hbd], by rw [hb, hw3]; simp [hbd], by simp [hw]⟩
    · by_cases h4 : v ≤ xs[j].deal.version
      · simp -implicitDefEqProofs [hbd, h4]
        exact ⟨k - 1, by omega, j + 1, by omega, by rw [hc, hw2]; simp [goodD, hbd, h4], by rw [hb]; simp [hbd], by simp [hw]⟩
      · simp -implicitDefEqProofs [hbd, h4]
        exact ⟨k - 1, by omega, j + 1, by omega, by rw [hc]; simp [goodD, hbd, h4], by rw [hb]; simp [hbd], by simp [hw]⟩
  · have hx := cnt_all (f := goodD v) (xs := xs) (j := j) (by omega)
    have hy := cnt_all (f := badD v) (xs := xs) (j := j) (by omega)
    simp -implicitDefEqProofs [hjn, hx, hy]

theorem world_stup {w : World} (h : szWorld w ≤ 4194304) : ∀ (j : Nat) (hj : j < w.stage.length), w.stage[j].up.length ≤ maxLen := by
  intro j hj
  have := size_at (f := szDialed) hj
  unfold szWorld at h
  have e : szDialed w.stage[j] = szDeal w.stage[j].deal + w.stage[j].up.length := rfl
  unfold maxLen; omega
def signalNow (w : World) : Int := signalOf (cntF (goodD w.rollout.version) w.stage) (cntF (badD w.rollout.version) w.stage) w.least w.percent
abbrev SignalNowS (R : Rel) : Prop := ∀ w : World, szWorld w ≤ 4194304 → R [arg (eWorld w)] [] (I (signalNow w)) []
theorem sSignalNow_b (D : Dn) (hM : MaskedByS (D gspec_MaskedBy)) (hS : SignalOfS (D gspec_SignalOf)) : SignalNowS (Body D sspec_SignalNow) := by
  intro w h
  simp -implicitDefEqProofs
  refine callQ_of (hM w.stage _ (by have := world_stage h; unfold maxLen; omega) (world_stup h)) ?_
  simp -implicitDefEqProofs
  refine callQ_of (hS _ _ _ _) ?_
  simp -implicitDefEqProofs [signalNow]
theorem iSignalNow_b (D : Dn) (hM : MaskedByS (D gimpl_MaskedBy)) (hS : SignalOfS (D gimpl_SignalOf)) : SignalNowS (Body D simpl_SignalNow) := by
  intro w h
  simp -implicitDefEqProofs
  refine callQ_of (hM w.stage _ (by have := world_stage h; unfold maxLen; omega) (world_stup h)) ?_
  simp -implicitDefEqProofs
  refine callQ_of (hS _ _ _ _) ?_
  simp -implicitDefEqProofs [signalNow]
end Go.Eng.T

namespace Go.Eng.T
set_option maxRecDepth 20000

abbrev InQ (a b c : Int) : Prop := b ≤ a ∧ a ≤ c
/-- shares that rise, each from 1 to 100 -/
def risesF (xs : List Int) (j : Nat) : Bool := (List.range j).all fun i => decide (InQ (xs.getD i 0) 1 100) && (decide (i = 0) || decide (xs.getD (i - 1) 0 < xs.getD i 0))
theorem risesF_step (xs : List Int) (j : Nat) : risesF xs (j + 1) = (risesF xs j && (decide (InQ (xs.getD j 0) 1 100) && (decide (j = 0) || decide (xs.getD (j - 1) 0 < xs.getD j 0)))) := by
  unfold risesF
  rw [List.range_succ, List.all_append]
  simp
theorem rises_no {xs : List Int} {j : Nat} (h : j < xs.length) (hn : risesF xs (j + 1) = false) : risesF xs xs.length = false := by
  have : ∀ n, risesF xs (j + 1 + n) = false := by
    intro n
    induction n with
    | zero => exact hn
    | succ n ih => rw [show j + 1 + (n + 1) = (j + 1 + n) + 1 by omega, risesF_step, ih]; rfl
  have := this (xs.length - (j + 1))
  rwa [show j + 1 + (xs.length - (j + 1)) = xs.length by omega] at this
def isRollout (r : Rollout) : Bool :=
  risesF r.stages r.stages.length && (decide (InQ r.version 1 9) && decide (InQ r.stages.length 1 5) && decide (r.stages.getD (r.stages.length - 1) 0 = 100) && decide (InQ r.pos 0 (r.stages.length - 1)))
abbrev IsRolloutS (R : Rel) : Prop := ∀ r : Rollout, r.stages.length ≤ 4194304 → R [arg (eRollout r)] [] (B (isRollout r)) []
theorem getD_at {xs : List Int} {j : Nat} (h : j < xs.length) : xs.getD j 0 = xs[j] := by simp [h]
theorem sIsRollout_b (D : Dn) (hI : InS (D gspec_l1In)) : IsRolloutS (Body D sspec_IsRollout) := by
  intro r hl
  simp -implicitDefEqProofs
  refine swp_loop (fun k s => ∃ j, j + k = r.stages.length ∧ risesF r.stages j = true ∧ s = ⟨[.undef, .ptr 0 0, .undef, .sc (.int .i64 j), .undef, .undef], [.var ((eRollout r).map (roCell 1))]⟩) ?_ r.stages.length _ ⟨0, by simp, by simp [risesF], by simp⟩
  intro k s ⟨j, hj, hr, hs⟩
  subst hs
  by_cases hjn : j < r.stages.length
  · have hw : IntKind.i64.wrap ((j : Int) + 1) = (j + 1 : Nat) := by rw [wrap_id (by omega) (by omega)]; simp
    have hst := risesF_step r.stages j
    rw [hr, Bool.true_and, getD_at hjn] at hst
    simp -implicitDefEqProofs [hjn]
    refine callQ_of (hI _ _ _) ?_
    by_cases h1 : InQ r.stages[j] 1 100
    rotate_left
    · have e : isRollout r = false := by unfold isRollout; rw [rises_no hjn (by rw [hst]; simp [h1])]; rfl
      simp -implicitDefEqProofs [h1, e]
    by_cases h0 : j = 0
    · subst h0
      simp -implicitDefEqProofs [h1]
      exact ⟨k - 1, by omega, 1, by omega, by rw [hst]; simp [h1], by simpa using hw⟩
    · have hp : ((j - 1 : Nat) : Int) = (j : Int) - 1 := by omega
      have hw2 : IntKind.i64.wrap ((j : Int) - 1) = ((j - 1 : Nat) : Int) := by rw [wrap_id (by omega) (by omega)]; omega
      have h2 : (0 : Int) < j := by omega
      have h2' : 0 < j := by omega
      have h3 : j - 1 < r.stages.length := by omega
      rw [getD_at h3] at hst
      by_cases h4 : r.stages[j - 1] < r.stages[j]
      · have h4' : ¬ r.stages[j] ≤ r.stages[j - 1] := by omega
        simp -implicitDefEqProofs [h1, h2, h2', hw2, h3, hjn, h4']
        exact ⟨k - 1, by omega, j + 1, by omega, by rw [hst]; simp [h1, h0, h4], by simp [hw]⟩
      · have e : isRollout r = false := by unfold isRollout; rw [rises_no hjn (by rw [hst]; simp [h1, h0, h4])]; rfl
        have h4' : r.stages[j] ≤ r.stages[j - 1] := by omega
        simp -implicitDefEqProofs [h1, h2, h2', hw2, h3, hjn, h4', e]
  · obtain rfl : j = r.stages.length := by omega
    simp -implicitDefEqProofs
    refine callQ_of (hI _ _ _) ?_
    by_cases h1 : InQ r.version 1 9
    rotate_left
    · simp -implicitDefEqProofs [h1, isRollout]
    simp -implicitDefEqProofs [h1]
    refine callQ_of (hI _ _ _) ?_
    by_cases h2 : InQ r.stages.length 1 5
    rotate_left
    · simp -implicitDefEqProofs [h2, isRollout]
    have hw2 : IntKind.i64.wrap ((r.stages.length : Int) - 1) = ((r.stages.length - 1 : Nat) : Int) := by rw [wrap_id (by omega) (by omega)]; omega
    have h3 : r.stages.length - 1 < r.stages.length := by omega
    have h5 : 0 < r.stages.length := by omega
    by_cases h4 : r.stages[r.stages.length - 1] = 100
    rotate_left
    · simp -implicitDefEqProofs [h2, hw2, h3, h4, h5, isRollout]
    simp -implicitDefEqProofs [h2, hw2, h3, h4, h5]
    refine callQ_of (hI _ _ _) ?_
    have hc : ((r.stages.length - 1 : Nat) : Int) = (r.stages.length : Int) - 1 := by omega
    have e : isRollout r = decide (InQ r.pos 0 ((r.stages.length - 1 : Nat) : Int)) := by unfold isRollout; rw [hr, getD_at h3, h4, hc]; simp [h1, h2]
    simp -implicitDefEqProofs [e]
theorem iIsRollout_b (D : Dn) (hI : InS (D gimpl_InRange)) : IsRolloutS (Body D simpl_IsRollout) := by
  intro r hl
  simp -implicitDefEqProofs
  refine swp_loop (fun k s => ∃ j v3 v4, j + k = r.stages.length ∧ risesF r.stages j = true ∧ s = ⟨[.undef, .ptr 0 0, .undef, v3, v4, .sl 1 1 r.stages.length (ints r.stages), .sc (.int .i64 r.stages.length), .sc (.int .i64 j), .undef, .undef], [.var ((eRollout r).map (roCell 1))]⟩) ?_ r.stages.length _ ⟨0, .undef, .undef, by simp, by simp [risesF], by simp⟩
  intro k s ⟨j, v3, v4, hj, hr, hs⟩
  subst hs
  by_cases hjn : j < r.stages.length
  · have hw : IntKind.i64.wrap ((j : Int) + 1) = (j + 1 : Nat) := by rw [wrap_id (by omega) (by omega)]; simp
    have hst := risesF_step r.stages j
    rw [hr, Bool.true_and, getD_at hjn] at hst
    simp -implicitDefEqProofs [hjn]
    refine callQ_of (hI _ _ _) ?_
    by_cases h1 : InQ r.stages[j] 1 100
    rotate_left
    · have e : isRollout r = false := by unfold isRollout; rw [rises_no hjn (by rw [hst]; simp [h1])]; rfl
      simp -implicitDefEqProofs [h1, e]
    by_cases h0 : j = 0
    · subst h0
      simp -implicitDefEqProofs [h1]
      exact ⟨k - 1, by omega, 1, by omega, by rw [hst]; simp [h1], by simpa using hw⟩
    · have hp : ((j - 1 : Nat) : Int) = (j : Int) - 1 := by omega
      have hw2 : IntKind.i64.wrap ((j : Int) - 1) = ((j - 1 : Nat) : Int) := by rw [wrap_id (by omega) (by omega)]; omega
      have h2 : (0 : Int) < j := by omega
      have h2' : 0 < j := by omega
      have h3 : j - 1 < r.stages.length := by omega
      rw [getD_at h3] at hst
      by_cases h4 : r.stages[j - 1] < r.stages[j]
      · have h4' : ¬ r.stages[j] ≤ r.stages[j - 1] := by omega
        simp -implicitDefEqProofs [h1, h2, h2', hw2, h3, hjn, h4']
        exact ⟨k - 1, by omega, j + 1, by omega, by rw [hst]; simp [h1, h0, h4], by simp [hw]⟩
      · have e : isRollout r = false := by unfold isRollout; rw [rises_no hjn (by rw [hst]; simp [h1, h0, h4])]; rfl
        have h4' : r.stages[j] ≤ r.stages[j - 1] := by omega
        simp -implicitDefEqProofs [h1, h2, h2', hw2, h3, hjn, h4', e]
  · obtain rfl : j = r.stages.length := by omega
    simp -implicitDefEqProofs
    refine callQ_of (hI _ _ _) ?_
    by_cases h1 : InQ r.version 1 9
    rotate_left
    · simp -implicitDefEqProofs [h1, isRollout]
    simp -implicitDefEqProofs [h1]
    refine callQ_of (hI _ _ _) ?_
    by_cases h2 : InQ r.stages.length 1 5
    rotate_left
    · simp -implicitDefEqProofs [h2, isRollout]
    have hw2 : IntKind.i64.wrap ((r.stages.length : Int) - 1) = ((r.stages.length - 1 : Nat) : Int) := by rw [wrap_id (by omega) (by omega)]; omega
    have h3 : r.stages.length - 1 < r.stages.length := by omega
    have h5 : 0 < r.stages.length := by omega
    by_cases h4 : r.stages[r.stages.length - 1] = 100
    rotate_left
    · simp -implicitDefEqProofs [h2, hw2, h3, h4, h5, isRollout]
    simp -implicitDefEqProofs [h2, hw2, h3, h4, h5]
    refine callQ_of (hI _ _ _) ?_
    have hc : ((r.stages.length - 1 : Nat) : Int) = (r.stages.length : Int) - 1 := by omega
    have e : isRollout r = decide (InQ r.pos 0 ((r.stages.length - 1 : Nat) : Int)) := by unfold isRollout; rw [hr, getD_at h3, h4, hc]; simp [h1, h2]
    simp -implicitDefEqProofs [e]

/-- rounded up -/
def ceilDiv (a b : Int) : Int := if InQ a 0 1000000000000 ∧ InQ b 1 1000000000000 then (a + b - 1).tdiv b else 0
abbrev CeilDivS (R : Rel) : Prop := ∀ a b : Int, R [I a, I b] [] (I (ceilDiv a b)) []
theorem tdiv_fit {a b : Int} (h1 : 0 ≤ a) (h2 : a ≤ 4000000000000) (h3 : 1 ≤ b) : IntKind.i64.wrap (a.tdiv b) = a.tdiv b := by
  have a1 : 0 ≤ a.tdiv b := Int.tdiv_nonneg h1 (by omega)
  have a2 : a.tdiv b ≤ a := Int.tdiv_le_self _ h1
  exact wrap_id (by omega) (by omega)
theorem sCeilDiv_b (D : Dn) (hI : InS (D gspec_l1In)) : CeilDivS (Body D sspec_CeilDiv) := by
  intro a b
  simp -implicitDefEqProofs
  refine callQ_of (hI _ _ _) ?_
  by_cases h1 : InQ a 0 1000000000000
  rotate_left
  · simp -implicitDefEqProofs [h1, ceilDiv]
  simp -implicitDefEqProofs [h1]
  refine callQ_of (hI _ _ _) ?_
  by_cases h2 : InQ b 1 1000000000000
  rotate_left
  · simp -implicitDefEqProofs [h2, ceilDiv]
  have w1 : IntKind.i64.wrap (a + b) = a + b := wrap_id (by omega) (by omega)
  have w2 : IntKind.i64.wrap (a + b - 1) = a + b - 1 := wrap_id (by omega) (by omega)
  have w3 := tdiv_fit (a := a + b - 1) (b := b) (by omega) (by omega) (by omega)
  have h0 : ¬ b = 0 := by omega
  have e : ceilDiv a b = (a + b - 1).tdiv b := by unfold ceilDiv; rw [if_pos ⟨h1, h2⟩]
  simp -implicitDefEqProofs [h2, w1, w2, w3, h0, e]
theorem iCeilDiv_b (D : Dn) (hI : InS (D gimpl_InRange)) : CeilDivS (Body D simpl_CeilDiv) := by
  intro a b
  simp -implicitDefEqProofs
  refine callQ_of (hI _ _ _) ?_
  by_cases h1 : InQ a 0 1000000000000
  rotate_left
  · simp -implicitDefEqProofs [h1, ceilDiv]
  simp -implicitDefEqProofs [h1]
  refine callQ_of (hI _ _ _) ?_
  by_cases h2 : InQ b 1 1000000000000
  rotate_left
  · simp -implicitDefEqProofs [h2, ceilDiv]
  have w1 : IntKind.i64.wrap (a + b) = a + b := wrap_id (by omega) (by omega)
  have w2 : IntKind.i64.wrap (a + b - 1) = a + b - 1 := wrap_id (by omega) (by omega)
  have w3 := tdiv_fit (a := a + b - 1) (b := b) (by omega) (by omega) (by omega)
  have h0 : ¬ b = 0 := by omega
  have e : ceilDiv a b = (a + b - 1).tdiv b := by unfold ceilDiv; rw [if_pos ⟨h1, h2⟩]
  simp -implicitDefEqProofs [h2, w1, w2, w3, h0, e]
end Go.Eng.T

namespace Go.Eng.T
set_option maxRecDepth 20000

theorem rises_at {xs : List Int} {n : Nat} (h : risesF xs n = true) {i : Nat} (hi : i < n) : InQ (xs.getD i 0) 1 100 := by
  unfold risesF at h
  have := List.all_eq_true.1 h i (List.mem_range.2 hi)
  simp at this
  exact ⟨this.1.1, this.1.2⟩
theorem roll_pos {r : Rollout} (h : isRollout r = true) : 0 ≤ r.pos ∧ r.pos < r.stages.length ∧ r.stages.length ≤ 5 ∧ InQ (r.stages.getD r.pos.toNat 0) 1 100 := by
  unfold isRollout at h
  simp only [Bool.and_eq_true, decide_eq_true_eq] at h
  obtain ⟨h1, ⟨⟨h2, h3⟩, h4⟩, h5⟩ := h
  refine ⟨h5.1, by omega, by omega, rises_at h1 (by omega)⟩
def countIn (r : Rollout) (n : Int) : Int := if isRollout r = true ∧ r.off = false ∧ InQ n 0 10000 then ceilDiv (n * r.stages.getD r.pos.toNat 0) 100 else 0
abbrev CountInS (R : Rel) : Prop := ∀ (r : Rollout) (n : Int), r.stages.length ≤ 4194304 → R [arg (eRollout r), I n] [] (I (countIn r n)) []
theorem mul_fit {n x : Int} (h1 : InQ n 0 10000) (h2 : InQ x 1 100) : IntKind.i64.wrap (n * x) = n * x := by
  have a1 : 0 ≤ n * x := Int.mul_nonneg h1.1 (by omega)
  have a2 : n * x ≤ 10000 * 100 := Int.mul_le_mul h1.2 h2.2 (by omega) (by omega)
  exact wrap_id (by omega) (by omega)
theorem sCountIn_b (D : Dn) (hR : IsRolloutS (D gspec_IsRollout)) (hI : InS (D gspec_l1In)) (hC : CeilDivS (D gspec_CeilDiv)) : CountInS (Body D sspec_CountIn) := by
  intro r n hl
  simp -implicitDefEqProofs
  refine callQ_of (hR r hl) ?_
  by_cases h1 : isRollout r = true
  rotate_left
  · simp -implicitDefEqProofs [h1, countIn]
  by_cases h2 : r.off = true
  · simp -implicitDefEqProofs [h1, h2, countIn]
  simp -implicitDefEqProofs [h1, h2]
  refine callQ_of (hI _ _ _) ?_
  by_cases h3 : InQ n 0 10000
  rotate_left
  · simp -implicitDefEqProofs [h3, countIn]
  obtain ⟨p1, p2, p3, p4⟩ := roll_pos h1
  obtain ⟨q, hq⟩ : ∃ q : Nat, r.pos = q := ⟨r.pos.toNat, by omega⟩
  have hq2 : q < r.stages.length := by omega
  have e : countIn r n = ceilDiv (n * r.stages[q]) 100 := by unfold countIn; rw [if_pos ⟨h1, by simpa using h2, h3⟩, hq]; simp [hq2]
  have p4' : InQ r.stages[q] 1 100 := by rw [hq] at p4; simpa [hq2] using p4
  have hw := mul_fit h3 p4'
  simp -implicitDefEqProofs [h3, hq, hq2, hw]
  refine callQ_of (hC _ _) ?_
  simp -implicitDefEqProofs [e]
theorem iCountIn_b (D : Dn) (hR : IsRolloutS (D gimpl_IsRollout)) (hI : InS (D gimpl_InRange)) (hC : CeilDivS (D gimpl_CeilDiv)) : CountInS (Body D simpl_CountIn) := by
  intro r n hl
  simp -implicitDefEqProofs
  refine callQ_of (hR r hl) ?_
  by_cases h1 : isRollout r = true
  rotate_left
  · simp -implicitDefEqProofs [h1, countIn]
  by_cases h2 : r.off = true
  · simp -implicitDefEqProofs [h1, h2, countIn]
  simp -implicitDefEqProofs [h1, h2]
  refine callQ_of (hI _ _ _) ?_
  by_cases h3 : InQ n 0 10000
  rotate_left
  · simp -implicitDefEqProofs [h3, countIn]
  obtain ⟨p1, p2, p3, p4⟩ := roll_pos h1
  obtain ⟨q, hq⟩ : ∃ q : Nat, r.pos = q := ⟨r.pos.toNat, by omega⟩
  have hq2 : q < r.stages.length := by omega
  have e : countIn r n = ceilDiv (n * r.stages[q]) 100 := by unfold countIn; rw [if_pos ⟨h1, by simpa using h2, h3⟩, hq]; simp [hq2]
  have p4' : InQ r.stages[q] 1 100 := by rw [hq] at p4; simpa [hq2] using p4
  have hw := mul_fit h3 p4'
  simp -implicitDefEqProofs [h3, hq, hq2, hw]
  refine callQ_of (hC _ _) ?_
  simp -implicitDefEqProofs [e]

def isIn (r : Rollout) (i n : Int) : Bool := decide (0 ≤ i) && decide (i < n) && decide (i < countIn r n)
abbrev IsInS (R : Rel) : Prop := ∀ (r : Rollout) (i n : Int), r.stages.length ≤ 4194304 → R [arg (eRollout r), I i, I n] [] (B (isIn r i n)) []
theorem sIsIn_b (D : Dn) (hC : CountInS (D gspec_CountIn)) : IsInS (Body D sspec_IsIn) := by
  intro r i n hl
  by_cases h1 : 0 ≤ i
  · by_cases h2 : i < n
    · simp -implicitDefEqProofs [h1, h2]
      refine callQ_of (hC r n hl) ?_
      simp -implicitDefEqProofs [isIn, h1, h2]
    · simp -implicitDefEqProofs [h1, h2, isIn]
  · simp -implicitDefEqProofs [h1, isIn]
theorem iIsIn_b (D : Dn) (hC : CountInS (D gimpl_CountIn)) : IsInS (Body D simpl_IsIn) := by
  intro r i n hl
  by_cases h1 : 0 ≤ i
  · by_cases h2 : i < n
    · simp -implicitDefEqProofs [h1, h2]
      refine callQ_of (hC r n hl) ?_
      simp -implicitDefEqProofs [isIn, h1, h2]
    · simp -implicitDefEqProofs [h1, h2, isIn]
  · simp -implicitDefEqProofs [h1, isIn]

abbrev hasEndS (R : Rel) : Prop := ∀ (w : World) (i : Int), w.ends.length ≤ 4194304 → R [arg (eWorld w), I i] [] (B (decide (InQ i 0 ((w.ends.length : Int) - 1)))) []
def isOnNew (w : World) (i : Int) : Bool := decide (InQ i 0 ((w.ends.length : Int) - 1)) && isIn w.rollout i w.ends.length && (match w.ends[i.toNat]? with | some e => decide (w.rollout.version ∈ e.versions) | none => false)
theorem world_vers' {w : World} (h : szWorld w ≤ 4194304) {j : Nat} (hj : j < w.ends.length) : w.ends[j].versions.length ≤ maxLen := by
  have := size_at (f := szEndpoint) hj
  have e : szEndpoint w.ends[j] = w.ends[j].versions.length + w.ends[j].tags.length + sumF szBox w.ends[j].path := rfl
  unfold szWorld at h
  unfold maxLen; omega
theorem world_roll {w : World} (h : szWorld w ≤ 4194304) : w.rollout.stages.length ≤ 4194304 := by unfold szWorld szRollout at h; omega
abbrev IsOnNewS (R : Rel) : Prop := ∀ (w : World) (i : Int), szWorld w ≤ 4194304 → R [arg (eWorld w), I i] [] (B (isOnNew w i)) []
end Go.Eng.T

namespace Go.Eng.T
set_option maxRecDepth 20000

abbrev cpRolloutS (R : Rel) : Prop := ∀ r : Rollout, szRollout r ≤ 4194304 → R [arg (eRollout r)] [] (.agg (eRollout r)) []
theorem l26Copy_b (D : Dn) : cpRolloutS (Body D sspec_l26Copy) := by
  intro r h
  have hb : r.stages.length * 8 ≤ 1099511627776 := by unfold szRollout at h; omega
  simp -implicitDefEqProofs [hb]
theorem copyRollout_b (D : Dn) : cpRolloutS (Body D simpl_copyRollout) := by
  intro r h
  have hb : r.stages.length * 8 ≤ 1099511627776 := by unfold szRollout at h; omega
  simp -implicitDefEqProofs [hb]
abbrev cpDialedS (R : Rel) : Prop := ∀ d : Dialed, szDialed d ≤ 4194304 → R [arg (eDialed d)] [] (.agg (eDialed d)) []
theorem l32Dialed_b (D : Dn) : cpDialedS (Body D sspec_l32Dialed) := by
  intro d h
  unfold szDialed szDeal at h
  have h1 : d.deal.tags.length * 8 ≤ 1099511627776 := by omega
  have h2 : d.up.length * 8 ≤ 1099511627776 := by omega
  simp -implicitDefEqProofs [h1, h2]
theorem copyDialed_b (D : Dn) : cpDialedS (Body D simpl_copyDialed) := by
  intro d h
  unfold szDialed szDeal at h
  have h1 : d.deal.tags.length * 8 ≤ 1099511627776 := by omega
  have h2 : d.up.length * 8 ≤ 1099511627776 := by omega
  simp -implicitDefEqProofs [h1, h2]

theorem take_flat {α : Type} {f : α → List V} {xs : List α} {j : Nat} (h : j < xs.length) : (xs.take j).flatMap f ++ f xs[j] = (xs.take (j + 1)).flatMap f := by
  have e : xs.take (j + 1) = xs.take j ++ [xs[j]] := by simp
  rw [e, List.flatMap_append]; simp
abbrev cpPathS (R : Rel) : Prop := ∀ xs : List Box, sumF szBox xs ≤ 4194304 → R [.sl 1 4 xs.length (xs.flatMap eBox)] [] (.sl 0 4 xs.length (xs.flatMap eBox)) []
theorem copyPath_b (D : Dn) : cpPathS (Body D simpl_copyPath) := by
  intro xs h
  have hlen := size_len (f := szBox) (xs := xs)
  simp -implicitDefEqProofs
  refine swp_loop (fun k s => ∃ j o1 o2 o3 o4 o5 o6 o7, j + k = xs.length ∧ s = ⟨[.undef, .undef, .arr 8, .undef, .sl 1 4 xs.length (xs.flatMap eBox), .sc (.int .i64 xs.length), .sc (.int .i64 j), .undef], [.free, o1, o2, o3, o4, o5, o6, o7, .arr 4 0 j ((xs.take j).flatMap eBox)]⟩) ?_ xs.length _ ⟨0, .free, .free, .free, .free, .free, .free, .free, by simp, by simp⟩
  intro k s ⟨j, o1, o2, o3, o4, o5, o6, o7, hj, hs⟩
  subst hs
  by_cases hjn : j < xs.length
  · have hw : IntKind.i64.wrap ((j : Int) + 1) = (j + 1 : Nat) := by rw [wrap_id (by omega) (by omega)]; simp
    have hsz := size_at (f := szBox) hjn
    have e : szBox xs[j] = xs[j].drops.length + xs[j].strips.length := rfl
    have h1 : xs[j].drops.length * 8 ≤ 1099511627776 := by omega
    have h2 : xs[j].strips.length * 8 ≤ 1099511627776 := by omega
    have h3 : (j + 1) * 64 ≤ 1099511627776 := by omega
    have hst := take_flat (f := eBox) hjn
    simp -implicitDefEqProofs [hjn, h1, h2, h3]
    exact ⟨k - 1, by omega, j + 1, by omega, by simp [hw], rfl, by rw [← hst]; rfl⟩
  · obtain rfl : j = xs.length := by omega
    simp -implicitDefEqProofs
abbrev cpEndpointS (R : Rel) : Prop := ∀ x : Endpoint, szEndpoint x ≤ 4194304 → R [arg (eEndpoint x)] [] (.agg (eEndpoint x)) []
theorem copyEndpoint_b (D : Dn) (hP : cpPathS (D gimpl_copyPath)) : cpEndpointS (Body D simpl_copyEndpoint) := by
  intro x h
  unfold szEndpoint at h
  have h1 : x.versions.length * 8 ≤ 1099511627776 := by omega
  have h2 : x.tags.length * 8 ≤ 1099511627776 := by omega
  simp -implicitDefEqProofs [h1, h2]
  refine callQ_of (hP x.path (by omega)) ?_
  simp -implicitDefEqProofs
theorem l32End_b (D : Dn) : cpEndpointS (Body D sspec_l32End) := by
  intro x h
  unfold szEndpoint at h
  have h1 : x.versions.length * 8 ≤ 1099511627776 := by omega
  have h2 : x.tags.length * 8 ≤ 1099511627776 := by omega
  have hlen := size_len (f := szBox) (xs := x.path)
  simp -implicitDefEqProofs [h1, h2]
  refine swp_loop (fun k s => ∃ j o7 o8 o9 o10 o11 o12 o13, j + k = x.path.length ∧ s = ⟨[.undef, .ptr 0 0, .ptr 1 0, .ptr 6 0, .sc (.int .i64 j), .undef, .undef], [.var ((eEndpoint x).map (roCell 1)), .var [.nil 1, .nil 1, .nil 4, .sc (.int .i64 0)], .dead, .arr 1 0 x.versions.length (ints x.versions), .dead, .arr 1 0 x.tags.length (ints x.tags), .var [.arr 3, .arr 5, .arr 14, .sc (.int .i64 x.cls)], o7, o8, o9, o10, o11, o12, o13, .arr 4 0 j ((x.path.take j).flatMap eBox)]⟩) ?_ x.path.length _ ⟨0, .free, .free, .free, .free, .free, .free, .free, by simp, by simp⟩
  intro k s ⟨j, o7, o8, o9, o10, o11, o12, o13, hj, hs⟩
  subst hs
  by_cases hjn : j < x.path.length
  · have hw : IntKind.i64.wrap ((j : Int) + 1) = (j + 1 : Nat) := by rw [wrap_id (by omega) (by omega)]; simp
    have hsz := size_at (f := szBox) hjn
    have e : szBox x.path[j] = x.path[j].drops.length + x.path[j].strips.length := rfl
    have h1 : x.path[j].drops.length * 8 ≤ 1099511627776 := by omega
    have h2 : x.path[j].strips.length * 8 ≤ 1099511627776 := by omega
    have h3 : (j + 1) * 64 ≤ 1099511627776 := by omega
    have hst := take_flat (f := eBox) hjn
    simp -implicitDefEqProofs [hjn, h1, h2, h3]
    exact ⟨k - 1, by omega, j + 1, by omega, by simp [hw], rfl, by rw [← hst]; rfl⟩
  · obtain rfl : j = x.path.length := by omega
    simp -implicitDefEqProofs
end Go.Eng.T

namespace Go.Eng.T
set_option maxRecDepth 20000
theorem world_roll' {w : World} (h : szWorld w ≤ 4194304) : szRollout w.rollout ≤ 4194304 := by unfold szWorld at h; omega
theorem world_szs {w : World} (h : szWorld w ≤ 4194304) : w.server.length ≤ 4194304 ∧ w.tags.length ≤ 4194304 ∧ sumF szEndpoint w.ends ≤ 4194304 ∧ sumF szDialed w.stage ≤ 4194304 ∧ sumF szLogged w.log ≤ 4194304 := by unfold szWorld at h; omega
abbrev cpWorldS (R : Rel) : Prop := ∀ w : World, szWorld w ≤ 4194304 → R [arg (eWorld w)] [] (.agg (eWorld w)) []
theorem l32Copy_b (D : Dn) (hE : cpEndpointS (D gspec_l32End)) (hR : cpRolloutS (D gspec_l26Copy)) (hD : cpDialedS (D gspec_l32Dialed)) : cpWorldS (Body D sspec_l32Copy) := by
  intro w h
  have hl := world_log h
  have he := world_ends h
  have hs := world_stage h
  have hr := world_roll' h
  have z := world_szs h
  have b1 : w.server.length * 8 ≤ 1099511627776 := by omega
  have b2 : w.tags.length * 8 ≤ 1099511627776 := by omega
  simp -implicitDefEqProofs [b1, b2]
  refine swp_loop (fun k s => ∃ j o8 o9 o10 o11 o12, j + k = w.ends.length ∧ s = ⟨[.undef, .ptr 0 0, .ptr 1 0, .ptr 2 0, .sc (.int .i64 j), .undef, .undef, .undef, .undef, .undef], [.var ((eWorld w).map (roCell 1)), .var [.nil 1, .nil 1, .sc (.int .i64 0), .nil 4, .sc (.int .i64 0), .nil 1, .sc (.int .i64 0), .sc (.bool false), .sc (.int .i64 0), .sc (.int .i64 0), .nil 5, .nil 8, .sc (.int .i64 0), .sc (.int .i64 0), .sc (.int .i64 0)], .var [.arr 4, .arr 6, .sc (.int .i64 w.key), .arr 24, .sc (.int .i64 w.rollout.version), .sl 1 1 w.rollout.stages.length (ints w.rollout.stages), .sc (.int .i64 w.rollout.pos), .sc (.bool w.rollout.off), .sc (.int .i64 w.least), .sc (.int .i64 w.percent), .sl 1 5 w.stage.length (w.stage.flatMap eDialed), .sl 1 8 w.log.length (w.log.flatMap eLogged), .sc (.int .i64 w.now), .sc (.int .i64 w.hurt), .sc (.int .i64 w.reached)], .dead, .arr 1 0 w.server.length (ints w.server), .dead, .arr 1 0 w.tags.length (ints w.tags), .free, o8, o9, o10, o11, o12, .free, .free, .free, .free, .free, .free, .free, .free, .free, .free, .free, .arr 4 0 j ((w.ends.take j).flatMap eEndpoint), .free, .free]⟩) ?_ w.ends.length _ ⟨0, by simp⟩
  intro k s ⟨j, o8, o9, o10, o11, o12, hj, hs'⟩
  subst hs'
  by_cases hjn : j < w.ends.length
  · have hw : IntKind.i64.wrap ((j : Int) + 1) = (j + 1 : Nat) := by rw [wrap_id (by omega) (by omega)]; simp
    have hsz := size_at (f := szEndpoint) hjn
    have h3 : (j + 1) * 80 ≤ 1099511627776 := by omega
    have hst := take_flat (f := eEndpoint) hjn
    simp -implicitDefEqProofs [hjn]
    refine callQ_of (hE w.ends[j] (by first | omega | (simp only [szLogged] at hsz; omega))) ?_
    simp -implicitDefEqProofs [hjn, h3]
    exact ⟨k - 1, by omega, j + 1, by omega, by simp [hw], rfl, by rw [← hst]; rfl⟩
  obtain rfl : j = w.ends.length := by omega
  simp -implicitDefEqProofs
  refine callQ_of (hR w.rollout hr) ?_
  simp -implicitDefEqProofs
  refine swp_loop (fun k s => ∃ j o8 o9 o10 o11 o12 o15 o16 o17 o18, j + k = w.stage.length ∧ s = ⟨[.undef, .ptr 0 0, .ptr 1 0, .ptr 2 0, .undef, .sc (.int .i64 j), .undef, .undef, .undef, .undef], [.var ((eWorld w).map (roCell 1)), .var [.nil 1, .nil 1, .sc (.int .i64 0), .nil 4, .sc (.int .i64 0), .nil 1, .sc (.int .i64 0), .sc (.bool false), .sc (.int .i64 0), .sc (.int .i64 0), .nil 5, .nil 8, .sc (.int .i64 0), .sc (.int .i64 0), .sc (.int .i64 0)], .var [.arr 4, .arr 6, .sc (.int .i64 w.key), .arr 24, .sc (.int .i64 w.rollout.version), .arr 13, .sc (.int .i64 w.rollout.pos), .sc (.bool w.rollout.off), .sc (.int .i64 w.least), .sc (.int .i64 w.percent), .arr 25, .sl 1 8 w.log.length (w.log.flatMap eLogged), .sc (.int .i64 w.now), .sc (.int .i64 w.hurt), .sc (.int .i64 w.reached)], .dead, .arr 1 0 w.server.length (ints w.server), .dead, .arr 1 0 w.tags.length (ints w.tags), .free, o8, o9, o10, o11, o12, .arr 1 0 w.rollout.stages.length (ints w.rollout.stages), .free, o15, o16, o17, o18, .free, .free, .free, .free, .free, .arr 4 0 w.ends.length (w.ends.flatMap eEndpoint), .arr 5 0 j ((w.stage.take j).flatMap eDialed), .free]⟩) ?_ w.stage.length _ ⟨0, by simp⟩
  intro k s ⟨j, o8, o9, o10, o11, o12, o15, o16, o17, o18, hj, hs'⟩
  subst hs'
  by_cases hjn : j < w.stage.length
  · have hw : IntKind.i64.wrap ((j : Int) + 1) = (j + 1 : Nat) := by rw [wrap_id (by omega) (by omega)]; simp
    have hsz := size_at (f := szDialed) hjn
    have h3 : (j + 1) * 72 ≤ 1099511627776 := by omega
    have hst := take_flat (f := eDialed) hjn
    simp -implicitDefEqProofs [hjn]
    refine callQ_of (hD w.stage[j] (by first | omega | (simp only [szLogged] at hsz; omega))) ?_
    simp -implicitDefEqProofs [hjn, h3]
    exact ⟨k - 1, by omega, j + 1, by omega, by simp [hw], rfl, by rw [← hst]; rfl⟩
  obtain rfl : j = w.stage.length := by omega
  simp -implicitDefEqProofs
  refine swp_loop (fun k s => ∃ j o8 o9 o10 o11 o12 o15 o16 o17 o18 o20 o21 o22 o23, j + k = w.log.length ∧ s = ⟨[.undef, .ptr 0 0, .ptr 1 0, .ptr 2 0, .undef, .undef, .sc (.int .i64 j), .undef, .undef, .undef], [.var ((eWorld w).map (roCell 1)), .var [.nil 1, .nil 1, .sc (.int .i64 0), .nil 4, .sc (.int .i64 0), .nil 1, .sc (.int .i64 0), .sc (.bool false), .sc (.int .i64 0), .sc (.int .i64 0), .nil 5, .nil 8, .sc (.int .i64 0), .sc (.int .i64 0), .sc (.int .i64 0)], .var [.arr 4, .arr 6, .sc (.int .i64 w.key), .arr 24, .sc (.int .i64 w.rollout.version), .arr 13, .sc (.int .i64 w.rollout.pos), .sc (.bool w.rollout.off), .sc (.int .i64 w.least), .sc (.int .i64 w.percent), .arr 25, .arr 26, .sc (.int .i64 w.now), .sc (.int .i64 w.hurt), .sc (.int .i64 w.reached)], .dead, .arr 1 0 w.server.length (ints w.server), .dead, .arr 1 0 w.tags.length (ints w.tags), .free, o8, o9, o10, o11, o12, .arr 1 0 w.rollout.stages.length (ints w.rollout.stages), .free, o15, o16, o17, o18, .free, o20, o21, o22, o23, .arr 4 0 w.ends.length (w.ends.flatMap eEndpoint), .arr 5 0 w.stage.length (w.stage.flatMap eDialed), .arr 8 0 j ((w.log.take j).flatMap eLogged)]⟩) ?_ w.log.length _ ⟨0, by simp⟩
  intro k s ⟨j, o8, o9, o10, o11, o12, o15, o16, o17, o18, o20, o21, o22, o23, hj, hs'⟩
  subst hs'
  by_cases hjn : j < w.log.length
  · have hw : IntKind.i64.wrap ((j : Int) + 1) = (j + 1 : Nat) := by rw [wrap_id (by omega) (by omega)]; simp
    have hsz := size_at (f := szLogged) hjn
    have h3 : (j + 1) * 96 ≤ 1099511627776 := by omega
    have hst := take_flat (f := eLogged) hjn
    simp -implicitDefEqProofs [hjn]
    refine callQ_of (hD w.log[j].dialed (by first | omega | (simp only [szLogged] at hsz; omega))) ?_
    simp -implicitDefEqProofs [hjn, h3]
    exact ⟨k - 1, by omega, j + 1, by omega, by simp [hw], rfl, by rw [← hst]; rfl⟩
  obtain rfl : j = w.log.length := by omega
  simp -implicitDefEqProofs
theorem copyWorld_b (D : Dn) (hE : cpEndpointS (D gimpl_copyEndpoint)) (hR : cpRolloutS (D gimpl_copyRollout)) (hD : cpDialedS (D gimpl_copyDialed)) : cpWorldS (Body D simpl_copyWorld) := by
  intro w h
  have hl := world_log h
  have he := world_ends h
  have hs := world_stage h
  have hr := world_roll' h
  have z := world_szs h
  have b1 : w.server.length * 8 ≤ 1099511627776 := by omega
  have b2 : w.tags.length * 8 ≤ 1099511627776 := by omega
  simp -implicitDefEqProofs [b1, b2]
  refine callQ_of (hR w.rollout hr) ?_
  simp -implicitDefEqProofs
  refine swp_loop (fun k s => ∃ j o8 o9 o10 o11 o12 o13, j + k = w.ends.length ∧ s = ⟨[.undef, .ptr 0 0, .ptr 1 0, .ptr 2 0, .undef, .undef, .undef, .sl 1 4 w.ends.length (w.ends.flatMap eEndpoint), .sc (.int .i64 w.ends.length), .sc (.int .i64 j), .undef, .undef, .undef, .undef, .undef, .undef, .undef, .undef, .undef], [.var ((eWorld w).map (roCell 1)), .var [.nil 1, .nil 1, .sc (.int .i64 0), .nil 4, .sc (.int .i64 0), .nil 1, .sc (.int .i64 0), .sc (.bool false), .sc (.int .i64 0), .sc (.int .i64 0), .nil 5, .nil 8, .sc (.int .i64 0), .sc (.int .i64 0), .sc (.int .i64 0)], .var [.arr 4, .arr 6, .sc (.int .i64 w.key), .arr 24, .sc (.int .i64 w.rollout.version), .arr 7, .sc (.int .i64 w.rollout.pos), .sc (.bool w.rollout.off), .sc (.int .i64 w.least), .sc (.int .i64 w.percent), .arr 25, .arr 26, .sc (.int .i64 w.now), .sc (.int .i64 w.hurt), .sc (.int .i64 w.reached)], .dead, .arr 1 0 w.server.length (ints w.server), .dead, .arr 1 0 w.tags.length (ints w.tags), .arr 1 0 w.rollout.stages.length (ints w.rollout.stages), o8, o9, o10, o11, o12, o13, .free, .free, .free, .free, .free, .free, .free, .free, .free, .free, .arr 4 0 j ((w.ends.take j).flatMap eEndpoint), .arr 5 0 0 [], .arr 8 0 0 []]⟩) ?_ w.ends.length _ ⟨0, by simp⟩
  intro k s ⟨j, o8, o9, o10, o11, o12, o13, hj, hs'⟩
  subst hs'
  by_cases hjn : j < w.ends.length
  · have hw : IntKind.i64.wrap ((j : Int) + 1) = (j + 1 : Nat) := by rw [wrap_id (by omega) (by omega)]; simp
    have hsz := size_at (f := szEndpoint) hjn
    have h3 : (j + 1) * 80 ≤ 1099511627776 := by omega
    have hst := take_flat (f := eEndpoint) hjn
    simp -implicitDefEqProofs [hjn]
    refine callQ_of (hE w.ends[j] (by first | omega | (simp only [szLogged] at hsz; omega))) ?_
    simp -implicitDefEqProofs [hjn, h3]
    exact ⟨k - 1, by omega, j + 1, by omega, by simp [hw], rfl, by rw [← hst]; rfl⟩
  obtain rfl : j = w.ends.length := by omega
  simp -implicitDefEqProofs
  refine swp_loop (fun k s => ∃ j o8 o9 o10 o11 o12 o13 o14 o15 o16 o17 o18, j + k = w.stage.length ∧ s = ⟨[.undef, .ptr 0 0, .ptr 1 0, .ptr 2 0, .undef, .undef, .undef, .undef, .undef, .undef, .undef, .sl 1 5 w.stage.length (w.stage.flatMap eDialed), .sc (.int .i64 w.stage.length), .sc (.int .i64 j), .undef, .undef, .undef, .undef, .undef], [.var ((eWorld w).map (roCell 1)), .var [.nil 1, .nil 1, .sc (.int .i64 0), .nil 4, .sc (.int .i64 0), .nil 1, .sc (.int .i64 0), .sc (.bool false), .sc (.int .i64 0), .sc (.int .i64 0), .nil 5, .nil 8, .sc (.int .i64 0), .sc (.int .i64 0), .sc (.int .i64 0)], .var [.arr 4, .arr 6, .sc (.int .i64 w.key), .arr 24, .sc (.int .i64 w.rollout.version), .arr 7, .sc (.int .i64 w.rollout.pos), .sc (.bool w.rollout.off), .sc (.int .i64 w.least), .sc (.int .i64 w.percent), .arr 25, .arr 26, .sc (.int .i64 w.now), .sc (.int .i64 w.hurt), .sc (.int .i64 w.reached)], .dead, .arr 1 0 w.server.length (ints w.server), .dead, .arr 1 0 w.tags.length (ints w.tags), .arr 1 0 w.rollout.stages.length (ints w.rollout.stages), o8, o9, o10, o11, o12, o13, o14, o15, o16, o17, o18, .free, .free, .free, .free, .free, .arr 4 0 w.ends.length (w.ends.flatMap eEndpoint), .arr 5 0 j ((w.stage.take j).flatMap eDialed), .arr 8 0 0 []]⟩) ?_ w.stage.length _ ⟨0, by simp⟩
  intro k s ⟨j, o8, o9, o10, o11, o12, o13, o14, o15, o16, o17, o18, hj, hs'⟩
  subst hs'
  by_cases hjn : j < w.stage.length
  · have hw : IntKind.i64.wrap ((j : Int) + 1) = (j + 1 : Nat) := by rw [wrap_id (by omega) (by omega)]; simp
    have hsz := size_at (f := szDialed) hjn
    have h3 : (j + 1) * 72 ≤ 1099511627776 := by omega
    have hst := take_flat (f := eDialed) hjn
    simp -implicitDefEqProofs [hjn]
    refine callQ_of (hD w.stage[j] (by first | omega | (simp only [szLogged] at hsz; omega))) ?_
    simp -implicitDefEqProofs [hjn, h3]
    exact ⟨k - 1, by omega, j + 1, by omega, by simp [hw], rfl, by rw [← hst]; rfl⟩
  obtain rfl : j = w.stage.length := by omega
  simp -implicitDefEqProofs
  refine swp_loop (fun k s => ∃ j o8 o9 o10 o11 o12 o13 o14 o15 o16 o17 o18 o19 o20 o21 o22 o23, j + k = w.log.length ∧ s = ⟨[.undef, .undef, .ptr 1 0, .ptr 2 0, .undef, .undef, .undef, .undef, .undef, .undef, .undef, .undef, .undef, .undef, .undef, .sl 1 8 w.log.length (w.log.flatMap eLogged), .sc (.int .i64 w.log.length), .sc (.int .i64 j), .undef], [.var ((eWorld w).map (roCell 1)), .var [.nil 1, .nil 1, .sc (.int .i64 0), .nil 4, .sc (.int .i64 0), .nil 1, .sc (.int .i64 0), .sc (.bool false), .sc (.int .i64 0), .sc (.int .i64 0), .nil 5, .nil 8, .sc (.int .i64 0), .sc (.int .i64 0), .sc (.int .i64 0)], .var [.arr 4, .arr 6, .sc (.int .i64 w.key), .arr 24, .sc (.int .i64 w.rollout.version), .arr 7, .sc (.int .i64 w.rollout.pos), .sc (.bool w.rollout.off), .sc (.int .i64 w.least), .sc (.int .i64 w.percent), .arr 25, .arr 26, .sc (.int .i64 w.now), .sc (.int .i64 w.hurt), .sc (.int .i64 w.reached)], .dead, .arr 1 0 w.server.length (ints w.server), .dead, .arr 1 0 w.tags.length (ints w.tags), .arr 1 0 w.rollout.stages.length (ints w.rollout.stages), o8, o9, o10, o11, o12, o13, o14, o15, o16, o17, o18, o19, o20, o21, o22, o23, .arr 4 0 w.ends.length (w.ends.flatMap eEndpoint), .arr 5 0 w.stage.length (w.stage.flatMap eDialed), .arr 8 0 j ((w.log.take j).flatMap eLogged)]⟩) ?_ w.log.length _ ⟨0, by simp⟩
  intro k s ⟨j, o8, o9, o10, o11, o12, o13, o14, o15, o16, o17, o18, o19, o20, o21, o22, o23, hj, hs'⟩
  subst hs'
  by_cases hjn : j < w.log.length
  · have hw : IntKind.i64.wrap ((j : Int) + 1) = (j + 1 : Nat) := by rw [wrap_id (by omega) (by omega)]; simp
    have hsz := size_at (f := szLogged) hjn
    have h3 : (j + 1) * 96 ≤ 1099511627776 := by omega
    have hst := take_flat (f := eLogged) hjn
    simp -implicitDefEqProofs [hjn]
    refine callQ_of (hD w.log[j].dialed (by first | omega | (simp only [szLogged] at hsz; omega))) ?_
    simp -implicitDefEqProofs [hjn, h3]
    exact ⟨k - 1, by omega, j + 1, by omega, by simp [hw], rfl, by rw [← hst]; rfl⟩
  obtain rfl : j = w.log.length := by omega
  simp -implicitDefEqProofs
end Go.Eng.T

namespace Go.Eng.T
set_option maxRecDepth 20000
abbrev InV (a b c : Int) : Prop := b ≤ a ∧ a ≤ c
/-- numbers that rise, each from 1 to 9 -/
def risesV (xs : List Int) (j : Nat) : Bool := (List.range j).all fun i => decide (InV (xs.getD i 0) 1 9) && (decide (i = 0) || decide (xs.getD (i - 1) 0 < xs.getD i 0))
theorem risesV_step (xs : List Int) (j : Nat) : risesV xs (j + 1) = (risesV xs j && (decide (InV (xs.getD j 0) 1 9) && (decide (j = 0) || decide (xs.getD (j - 1) 0 < xs.getD j 0)))) := by
  unfold risesV
  rw [List.range_succ, List.all_append]
  simp
theorem risesV_no {xs : List Int} {j : Nat} (h : j < xs.length) (hn : risesV xs (j + 1) = false) : risesV xs xs.length = false := by
  have : ∀ n, risesV xs (j + 1 + n) = false := by
    intro n
    induction n with
    | zero => exact hn
    | succ n ih => rw [show j + 1 + (n + 1) = (j + 1 + n) + 1 by omega, risesV_step, ih]; rfl
  have := this (xs.length - (j + 1))
  rwa [show j + 1 + (xs.length - (j + 1)) = xs.length by omega] at this
theorem getDV {xs : List Int} {j : Nat} (h : j < xs.length) : xs.getD j 0 = xs[j] := by simp [h]
def areVers (xs : List Int) : Bool := risesV xs xs.length && decide (0 < xs.length)
abbrev AreVersionsS (R : Rel) : Prop := ∀ xs : List Int, xs.length ≤ maxLen → R [.sl 1 1 xs.length (ints xs)] [] (B (areVers xs)) []
theorem sAreVersions_b (D : Dn) (hI : InS (D gspec_l1In)) : AreVersionsS (Body D sspec_AreVersions) := by
  intro xs hl
  unfold maxLen at hl
  simp -implicitDefEqProofs
  refine swp_loop (fun k s => ∃ j, j + k = xs.length ∧ risesV xs j = true ∧ s = ⟨[.sl 1 1 xs.length (ints xs), .undef, .sc (.int .i64 j), .undef, .undef], []⟩) ?_ xs.length _ ⟨0, by simp, by simp [risesV], by simp⟩
  intro k s ⟨j, hj, hr, hs⟩
  subst hs
  by_cases hjn : j < xs.length
  · have hw : IntKind.i64.wrap ((j : Int) + 1) = (j + 1 : Nat) := by rw [wrap_id (by omega) (by omega)]; simp
    have hst := risesV_step xs j
    rw [hr, Bool.true_and, getDV hjn] at hst
    simp -implicitDefEqProofs [hjn]
    refine callQ_of (hI _ _ _) ?_
    by_cases h1 : InV xs[j] 1 9
    rotate_left
    · have e : areVers xs = false := by unfold areVers; rw [risesV_no hjn (by rw [hst]; simp [h1])]; rfl
      simp -implicitDefEqProofs [h1, e]
    by_cases h0 : j = 0
    · subst h0
      simp -implicitDefEqProofs [h1]
      exact ⟨k - 1, by omega, 1, by omega, by rw [hst]; simp [h1], by simpa using hw⟩
    · have hw2 : IntKind.i64.wrap ((j : Int) - 1) = ((j - 1 : Nat) : Int) := by rw [wrap_id (by omega) (by omega)]; omega
      have h2 : (0 : Int) < j := by omega
      have h2' : 0 < j := by omega
      have h3 : j - 1 < xs.length := by omega
      rw [getDV h3] at hst
      by_cases h4 : xs[j - 1] < xs[j]
      · have h4' : ¬ xs[j] ≤ xs[j - 1] := by omega
        simp -implicitDefEqProofs [h1, h2, h2', hw2, h3, hjn, h4']
        exact ⟨k - 1, by omega, j + 1, by omega, by rw [hst]; simp [h1, h0, h4], by simp [hw]⟩
      · have e : areVers xs = false := by unfold areVers; rw [risesV_no hjn (by rw [hst]; simp [h1, h0, h4])]; rfl
        have h4' : xs[j] ≤ xs[j - 1] := by omega
        simp -implicitDefEqProofs [h1, h2, h2', hw2, h3, hjn, h4', e]
  · obtain rfl : j = xs.length := by omega
    have e : areVers xs = decide (0 < xs.length) := by unfold areVers; rw [hr]; rfl
    by_cases h5 : 0 < xs.length
    · have h5' : (0 : Int) < xs.length := by omega
      simp -implicitDefEqProofs [e, h5, h5']
    · have h5' : ¬ (0 : Int) < xs.length := by omega
      simp -implicitDefEqProofs [e, h5, h5']
theorem iAreVersions_b (D : Dn) (hI : InS (D gimpl_InRange)) : AreVersionsS (Body D simpl_AreVersions) := by
  intro xs hl
  unfold maxLen at hl
  simp -implicitDefEqProofs
  refine swp_loop (fun k s => ∃ j v2 v3, j + k = xs.length ∧ risesV xs j = true ∧ s = ⟨[.sl 1 1 xs.length (ints xs), .undef, v2, v3, .sl 1 1 xs.length (ints xs), .sc (.int .i64 xs.length), .sc (.int .i64 j), .undef, .undef], []⟩) ?_ xs.length _ ⟨0, .undef, .undef, by simp, by simp [risesV], by simp⟩
  intro k s ⟨j, v2, v3, hj, hr, hs⟩
  subst hs
  by_cases hjn : j < xs.length
  · have hw : IntKind.i64.wrap ((j : Int) + 1) = (j + 1 : Nat) := by rw [wrap_id (by omega) (by omega)]; simp
    have hst := risesV_step xs j
    rw [hr, Bool.true_and, getDV hjn] at hst
    simp -implicitDefEqProofs [hjn]
    refine callQ_of (hI _ _ _) ?_
    by_cases h1 : InV xs[j] 1 9
    rotate_left
    · have e : areVers xs = false := by unfold areVers; rw [risesV_no hjn (by rw [hst]; simp [h1])]; rfl
      simp -implicitDefEqProofs [h1, e]
    by_cases h0 : j = 0
    · subst h0
      simp -implicitDefEqProofs [h1]
      exact ⟨k - 1, by omega, 1, by omega, by rw [hst]; simp [h1], by simpa using hw⟩
    · have hw2 : IntKind.i64.wrap ((j : Int) - 1) = ((j - 1 : Nat) : Int) := by rw [wrap_id (by omega) (by omega)]; omega
      have h2 : (0 : Int) < j := by omega
      have h2' : 0 < j := by omega
      have h3 : j - 1 < xs.length := by omega
      rw [getDV h3] at hst
      by_cases h4 : xs[j - 1] < xs[j]
      · have h4' : ¬ xs[j] ≤ xs[j - 1] := by omega
        simp -implicitDefEqProofs [h1, h2, h2', hw2, h3, hjn, h4']
        exact ⟨k - 1, by omega, j + 1, by omega, by rw [hst]; simp [h1, h0, h4], by simp [hw]⟩
      · have e : areVers xs = false := by unfold areVers; rw [risesV_no hjn (by rw [hst]; simp [h1, h0, h4])]; rfl
        have h4' : xs[j] ≤ xs[j - 1] := by omega
        simp -implicitDefEqProofs [h1, h2, h2', hw2, h3, hjn, h4', e]
  · obtain rfl : j = xs.length := by omega
    have e : areVers xs = decide (0 < xs.length) := by unfold areVers; rw [hr]; rfl
    by_cases h5 : 0 < xs.length
    · have h5' : (0 : Int) < xs.length := by omega
      simp -implicitDefEqProofs [e, h5, h5']
    · have h5' : ¬ (0 : Int) < xs.length := by omega
      simp -implicitDefEqProofs [e, h5, h5']

theorem filt_step {p : Int → Bool} {xs : List Int} {j : Nat} (h : j < xs.length) : (xs.take (j + 1)).filter p = (xs.take j).filter p ++ (if p xs[j] then [xs[j]] else []) := by
  have e : xs.take (j + 1) = xs.take j ++ [xs[j]] := by simp
  rw [e, List.filter_append]
  by_cases hp : p xs[j] = true <;> simp [hp]
theorem filt_all {p : Int → Bool} {xs : List Int} {j : Nat} (h : xs.length ≤ j) : (xs.take j).filter p = xs.filter p := by rw [List.take_of_length_le h]
theorem filt_len {p : Int → Bool} {xs : List Int} {j : Nat} : ((xs.take j).filter p).length ≤ j := by
  have := List.length_filter_le p (xs.take j)
  have h2 : (xs.take j).length ≤ j := by simp; omega
  omega
def common (a b : List Int) : List Int := a.filter fun v => decide (v ∈ b)
def withoutV (a : List Int) (v : Int) : List Int := a.filter fun x => !decide (x = v)
abbrev CommonOfS (R : Rel) : Prop := ∀ a b : List Int, a.length ≤ 4194304 → b.length ≤ maxLen → R [.sl 1 1 a.length (ints a), .sl 1 1 b.length (ints b)] [] (.sl 0 1 (common a b).length (ints (common a b))) []
abbrev l12WithoutS (R : Rel) : Prop := ∀ (a : List Int) (v : Int), a.length ≤ 4194304 → R [.sl 1 1 a.length (ints a), I v] [] (.sl 0 1 (withoutV a v).length (ints (withoutV a v))) []
abbrev withoutS (R : Rel) : Prop := ∀ (a : List Int) (v : Int), a.length ≤ 4194304 → R [.sl 1 1 a.length (ints a), .sl 1 1 1 (ints [v])] [] (.sl 0 1 (withoutV a v).length (ints (withoutV a v))) []
theorem sCommonOf_b (D : Dn) (hH : HasS (D gspec_l9Has)) : CommonOfS (Body D sspec_CommonOf) := by
  intro a b ha hb'
  have hres : common a b = a.filter (fun v => decide (v ∈ b)) := rfl
  rw [hres]
  simp -implicitDefEqProofs
  refine swp_loop (fun k s => ∃ j o1 o2, j + k = a.length ∧ s = ⟨[.sl 1 1 a.length (ints a), .sl 1 1 b.length (ints b), .undef, .arr 3, .sc (.int .i64 j), .undef, .undef], [.free, o1, o2, .arr 1 0 ((a.take j).filter (fun v => decide (v ∈ b))).length (ints ((a.take j).filter (fun v => decide (v ∈ b))))]⟩) ?_ a.length _ ⟨0, by simp⟩
  intro k s ⟨j, o1, o2, hj, hs⟩
  subst hs
  by_cases hjn : j < a.length
  · have hw : IntKind.i64.wrap ((j : Int) + 1) = (j + 1 : Nat) := by rw [wrap_id (by omega) (by omega)]; simp
    have hst := filt_step (p := fun v => decide (v ∈ b)) hjn
    have hln := filt_len (p := fun v => decide (v ∈ b)) (xs := a) (j := j)
    have hb : (((a.take j).filter (fun v => decide (v ∈ b))).length + 1) * 8 ≤ 1099511627776 := by omega
    simp -implicitDefEqProofs [hjn]
    refine callQ_of (hH b _ hb') ?_
    by_cases h1 : a[j] ∈ b
    · rw [if_pos (by simp [h1])] at hst
      simp -implicitDefEqProofs [h1, hjn, hb]
      exact ⟨k - 1, by omega, j + 1, by omega, by simp [hw], by rw [hst]; simp, by rw [hst]⟩
    · rw [if_neg (by simp [h1]), List.append_nil] at hst
      simp -implicitDefEqProofs [h1, hjn, hb]
      exact ⟨k - 1, by omega, j + 1, by omega, by simp [hw], by rw [hst], by rw [hst]⟩
  · have hx := filt_all (p := fun v => decide (v ∈ b)) (xs := a) (j := j) (by omega)
    simp -implicitDefEqProofs [hjn, hx]
theorem iCommonOf_b (D : Dn) (hH : HasS (D gslices_Contains___int_int_)) : CommonOfS (Body D simpl_CommonOf) := by
  intro a b ha hb'
  have hres : common a b = a.filter (fun v => decide (v ∈ b)) := rfl
  rw [hres]
  simp -implicitDefEqProofs
  refine swp_loop (fun k s => ∃ j v4 o1 o2, j + k = a.length ∧ s = ⟨[.undef, .sl 1 1 b.length (ints b), .undef, .arr 3, v4, .sl 1 1 a.length (ints a), .sc (.int .i64 a.length), .sc (.int .i64 j), .undef, .undef], [.free, o1, o2, .arr 1 0 ((a.take j).filter (fun v => decide (v ∈ b))).length (ints ((a.take j).filter (fun v => decide (v ∈ b))))]⟩) ?_ a.length _ ⟨0, by simp⟩
  intro k s ⟨j, v4, o1, o2, hj, hs⟩
  subst hs
  by_cases hjn : j < a.length
  · have hw : IntKind.i64.wrap ((j : Int) + 1) = (j + 1 : Nat) := by rw [wrap_id (by omega) (by omega)]; simp
    have hst := filt_step (p := fun v => decide (v ∈ b)) hjn
    have hln := filt_len (p := fun v => decide (v ∈ b)) (xs := a) (j := j)
    have hb : (((a.take j).filter (fun v => decide (v ∈ b))).length + 1) * 8 ≤ 1099511627776 := by omega
    simp -implicitDefEqProofs [hjn]
    refine callQ_of (hH b _ hb') ?_
    by_cases h1 : a[j] ∈ b
    · rw [if_pos (by simp [h1])] at hst
      simp -implicitDefEqProofs [h1, hjn, hb]
      exact ⟨k - 1, by omega, j + 1, by omega, by simp [hw], by rw [hst]; simp, by rw [hst]⟩
    · rw [if_neg (by simp [h1]), List.append_nil] at hst
      simp -implicitDefEqProofs [h1, hjn, hb]
      exact ⟨k - 1, by omega, j + 1, by omega, by simp [hw], by rw [hst], by rw [hst]⟩
  · have hx := filt_all (p := fun v => decide (v ∈ b)) (xs := a) (j := j) (by omega)
    simp -implicitDefEqProofs [hjn, hx]
theorem l12Without_b (D : Dn)  : l12WithoutS (Body D sspec_l12Without) := by
  intro a v ha
  have hres : withoutV a v = a.filter (fun x => !decide (x = v)) := rfl
  rw [hres]
  simp -implicitDefEqProofs
  refine swp_loop (fun k s => ∃ j o1 o2, j + k = a.length ∧ s = ⟨[.sl 1 1 a.length (ints a), .sc (.int .i64 v), .undef, .arr 3, .sc (.int .i64 j), .undef, .undef], [.free, o1, o2, .arr 1 0 ((a.take j).filter (fun x => !decide (x = v))).length (ints ((a.take j).filter (fun x => !decide (x = v))))]⟩) ?_ a.length _ ⟨0, by simp⟩
  intro k s ⟨j, o1, o2, hj, hs⟩
  subst hs
  by_cases hjn : j < a.length
  · have hw : IntKind.i64.wrap ((j : Int) + 1) = (j + 1 : Nat) := by rw [wrap_id (by omega) (by omega)]; simp
    have hst := filt_step (p := fun x => !decide (x = v)) hjn
    have hln := filt_len (p := fun x => !decide (x = v)) (xs := a) (j := j)
    have hb : (((a.take j).filter (fun x => !decide (x = v))).length + 1) * 8 ≤ 1099511627776 := by omega
    simp -implicitDefEqProofs [hjn]
    by_cases h1 : a[j] = v
    · rw [if_neg (by simp [h1]), List.append_nil] at hst
      simp -implicitDefEqProofs [h1, hjn, hb]
      exact ⟨k - 1, by omega, j + 1, by omega, by simp [hw], by rw [hst], by rw [hst]⟩
    · rw [if_pos (by simp [h1])] at hst
      simp -implicitDefEqProofs [h1, hjn, hb]
      exact ⟨k - 1, by omega, j + 1, by omega, by simp [hw], by rw [hst]; simp, by rw [hst]⟩
  · have hx := filt_all (p := fun x => !decide (x = v)) (xs := a) (j := j) (by omega)
    simp -implicitDefEqProofs [hjn, hx]
theorem without_b (D : Dn) (hH : HasS (D gslices_Contains___int_int_)) : withoutS (Body D simpl_without) := by
  intro a v ha
  have hres : withoutV a v = a.filter (fun x => !decide (x = v)) := rfl
  rw [hres]
  simp -implicitDefEqProofs
  refine swp_loop (fun k s => ∃ j v4 o1 o2, j + k = a.length ∧ s = ⟨[.undef, .sl 1 1 1 (ints [v]), .undef, .arr 3, v4, .sl 1 1 a.length (ints a), .sc (.int .i64 a.length), .sc (.int .i64 j), .undef, .undef], [.free, o1, o2, .arr 1 0 ((a.take j).filter (fun x => !decide (x = v))).length (ints ((a.take j).filter (fun x => !decide (x = v))))]⟩) ?_ a.length _ ⟨0, by simp⟩
  intro k s ⟨j, v4, o1, o2, hj, hs⟩
  subst hs
  by_cases hjn : j < a.length
  · have hw : IntKind.i64.wrap ((j : Int) + 1) = (j + 1 : Nat) := by rw [wrap_id (by omega) (by omega)]; simp
    have hst := filt_step (p := fun x => !decide (x = v)) hjn
    have hln := filt_len (p := fun x => !decide (x = v)) (xs := a) (j := j)
    have hb : (((a.take j).filter (fun x => !decide (x = v))).length + 1) * 8 ≤ 1099511627776 := by omega
    simp -implicitDefEqProofs [hjn]
    refine callQ_of (hH [v] _ (by unfold maxLen; simp)) ?_
    by_cases h1 : a[j] = v
    · rw [if_neg (by simp [h1]), List.append_nil] at hst
      simp -implicitDefEqProofs [h1, hjn, hb]
      exact ⟨k - 1, by omega, j + 1, by omega, by simp [hw], by rw [hst], by rw [hst]⟩
    · rw [if_pos (by simp [h1])] at hst
      simp -implicitDefEqProofs [h1, hjn, hb]
      exact ⟨k - 1, by omega, j + 1, by omega, by simp [hw], by rw [hst]; simp, by rw [hst]⟩
  · have hx := filt_all (p := fun x => !decide (x = v)) (xs := a) (j := j) (by omega)
    simp -implicitDefEqProofs [hjn, hx]
end Go.Eng.T

namespace Go.Eng.T
set_option maxRecDepth 20000

def stepTick (w : World) (n : Int) : World × Bool := if InQ n 1 100 ∧ InQ w.now 0 (10000 - n) then ({ w with now := w.now + n }, true) else (w, false)
abbrev StepTickS (R : Rel) : Prop := ∀ (w : World) (n : Int), szWorld w ≤ 4194304 → R [arg (eWorld w), I n] [] (.tup [.agg (eWorld (stepTick w n).1), B (stepTick w n).2]) []
theorem stepTick_sz (w : World) (n : Int) : szWorld (stepTick w n).1 = szWorld w := by unfold stepTick; split <;> rfl

/-- the path of the endpoint i put aside -/
def clearEnd (w : World) (i : Nat) : World := match w.ends[i]? with
  | some x => { w with ends := w.ends.set i ⟨x.versions, x.tags, [], x.cls⟩ }
  | none => w
def stepClear (w : World) (i : Int) : World × Bool :=
  if 0 ≤ i then (match w.ends[i.toNat]? with
    | some x => if x.path = [] then (w, false) else (clearEnd w i.toNat, true)
    | none => (w, false)) else (w, false)
abbrev StepClearS (R : Rel) : Prop := ∀ (w : World) (i : Int), szWorld w ≤ 4194304 → R [arg (eWorld w), I i] [] (.tup [.agg (eWorld (stepClear w i).1), B (stepClear w i).2]) []
theorem stepClear_out {w : World} {i : Int} (h : ¬ InQ i 0 ((w.ends.length : Int) - 1)) : stepClear w i = (w, false) := by
  unfold stepClear
  by_cases h0 : 0 ≤ i
  · rw [if_pos h0, List.getElem?_eq_none (by omega)]
  · rw [if_neg h0]
theorem sum_set {α : Type} {f : α → Nat} : ∀ {xs : List α} {j : Nat} (h : j < xs.length) (y : α), ((xs.set j y).map f).sum + f xs[j] = (xs.map f).sum + f y
  | [], j, h, _ => by simp at h
  | x :: r, 0, h, y => by simp; omega
  | x :: r, j + 1, h, y => by
    have := sum_set (f := f) (xs := r) (j := j) (by simpa using h) y
    simp at *
    omega
theorem size_set {α : Type} {f : α → Nat} {xs : List α} {j : Nat} (h : j < xs.length) (y : α) : sumF f (xs.set j y) + f xs[j] = sumF f xs + f y := by
  have := sum_set (f := f) h y
  unfold sumF; simp only [List.length_set]; omega
theorem stepClear_sz (w : World) (i : Int) : szWorld (stepClear w i).1 ≤ szWorld w := by
  unfold stepClear
  split
  · split
    · rename_i x hx
      split
      · exact Nat.le_refl _
      · unfold clearEnd
        rw [hx]
        obtain ⟨hj, rfl⟩ := List.getElem?_eq_some_iff.1 hx
        have := size_set (f := szEndpoint) hj ⟨w.ends[i.toNat].versions, w.ends[i.toNat].tags, [], w.ends[i.toNat].cls⟩
        have e1 : szEndpoint ⟨w.ends[i.toNat].versions, w.ends[i.toNat].tags, [], w.ends[i.toNat].cls⟩ ≤ szEndpoint w.ends[i.toNat] := by unfold szEndpoint sumF; simp
        simp only [szWorld]
        omega
    · exact Nat.le_refl _
  · exact Nat.le_refl _
end Go.Eng.T

namespace Go.Eng.T
set_option maxRecDepth 20000
set_option maxHeartbeats 1000000

def maxF (l : List Int) : Int := l.foldl (fun a v => if v > a then v else a) 0
theorem maxF_lt {x : Int} : ∀ (l : List Int) (a : Int), (∀ y, y ∈ l → y < x) → a < x → l.foldl (fun a v => if v > a then v else a) a < x
  | [], a, _, h => h
  | y :: l, a, hl, h => by
    simp only [List.foldl_cons]
    refine maxF_lt l _ (fun z hz => hl z (by simp [hz])) ?_
    split
    · exact hl y (by simp)
    · exact h
theorem rises_lt {xs : List Int} : ∀ (n : Nat), risesV xs n = true → ∀ i j, i < j → j < n → xs.getD i 0 < xs.getD j 0
  | 0, _, i, j, _, h => by omega
  | n + 1, hr, i, j, hij, hj => by
    rw [risesV_step] at hr
    simp only [Bool.and_eq_true, Bool.or_eq_true, decide_eq_true_eq] at hr
    obtain ⟨h1, _, h3⟩ := hr
    by_cases hjn : j < n
    · exact rises_lt n h1 i j hij hjn
    · obtain rfl : j = n := by omega
      have h4 : xs.getD (j - 1) 0 < xs.getD j 0 := by
        rcases h3 with h3 | h3
        · omega
        · exact h3
      by_cases he : i = j - 1
      · rw [he]; exact h4
      · have := rises_lt j h1 i (j - 1) (by omega) (by omega)
        omega
theorem rises_in {xs : List Int} {n i : Nat} (h : risesV xs n = true) (hi : i < n) : InV (xs.getD i 0) 1 9 := by
  unfold risesV at h
  have := List.all_eq_true.1 h i (List.mem_range.2 hi)
  simp at this
  exact ⟨this.1.1, this.1.2⟩
theorem vers_pair {xs : List Int} (h : areVers xs = true) : xs.Pairwise (· < ·) := by
  unfold areVers at h
  simp only [Bool.and_eq_true, decide_eq_true_eq] at h
  rw [List.pairwise_iff_getElem]
  intro i j hi hj hij
  have := rises_lt _ h.1 i j hij hj
  rwa [getDV hi, getDV hj] at this
theorem vers_in {xs : List Int} (h : areVers xs = true) : ∀ x, x ∈ xs → InV x 1 9 := by
  unfold areVers at h
  simp only [Bool.and_eq_true, decide_eq_true_eq] at h
  intro x hx
  obtain ⟨i, hi, rfl⟩ := List.getElem_of_mem hx
  have := rises_in h.1 hi
  rwa [getDV hi] at this
theorem maxF_last {l : List Int} (hp : l.Pairwise (· < ·)) (h0 : ∀ x, x ∈ l → 0 < x) (hn : 0 < l.length) : maxF l = l[l.length - 1] := by
  obtain ⟨l', x, rfl⟩ : ∃ l' x, l = l' ++ [x] := by
    rcases List.eq_nil_or_concat l with h | ⟨l', x, h⟩
    · rw [h] at hn; simp at hn
    · exact ⟨l', x, by simpa using h⟩
  rw [List.pairwise_append] at hp
  have h1 : maxF l' < x := maxF_lt l' 0 (fun y hy => hp.2.2 y hy x (by simp)) (h0 x (by simp))
  have h2 : maxF (l' ++ [x]) = if x > maxF l' then x else maxF l' := by unfold maxF; rw [List.foldl_append]; rfl
  rw [h2, if_pos h1]
  simp
def bestCommon (a b : List Int) : Int := if areVers a = true ∧ areVers b = true then maxF (common a b) else 0
abbrev BestCommonS (R : Rel) : Prop := ∀ a b : List Int, a.length ≤ 4194304 → b.length ≤ 4194304 → R [.sl 1 1 a.length (ints a), .sl 1 1 b.length (ints b)] [] (I (bestCommon a b)) []
theorem ml {n : Nat} (h : n ≤ 4194304) : n ≤ maxLen := by unfold maxLen; omega
theorem sBestCommon_b (D : Dn) (hC : CommonOfS (D gspec_CommonOf)) (hA : AreVersionsS (D gspec_AreVersions)) : BestCommonS (Body D sspec_BestCommon) := by
  intro a b ha hb
  have hcl : (common a b).length ≤ 4194304 := Nat.le_trans (List.length_filter_le _ _) ha
  simp -implicitDefEqProofs
  refine callQ_of (hC a b ha (ml hb)) ?_
  simp -implicitDefEqProofs
  refine callQ_of (hA a (ml ha)) ?_
  by_cases h1 : areVers a = true
  rotate_left
  · simp -implicitDefEqProofs [h1, bestCommon]
  simp -implicitDefEqProofs [h1]
  refine callQ_of (hA b (ml hb)) ?_
  by_cases h2 : areVers b = true
  rotate_left
  · simp -implicitDefEqProofs [h2, bestCommon]
  have e : bestCommon a b = maxF (common a b) := by unfold bestCommon; rw [if_pos ⟨h1, h2⟩]
  rw [e]
  by_cases h3 : common a b = []
  · simp -implicitDefEqProofs [h2, h3, maxF]
  have h4 : 0 < (common a b).length := List.length_pos_iff.2 h3
  have h5 := maxF_last (l := common a b) ((vers_pair h1).filter _) (fun x hx => by have := vers_in h1 x (List.mem_filter.1 hx).1; omega) h4
  rw [h5]
  generalize common a b = l at h3 h4 hcl
  have hw : IntKind.i64.wrap ((l.length : Int) - 1) = ((l.length - 1 : Nat) : Int) := by rw [wrap_id (by omega) (by omega)]; omega
  have h6 : l.length - 1 < l.length := by omega
  simp -implicitDefEqProofs [h2, h3, hw, h6, h4]
theorem iBestCommon_b (D : Dn) (hC : CommonOfS (D gimpl_CommonOf)) (hA : AreVersionsS (D gimpl_AreVersions)) : BestCommonS (Body D simpl_BestCommon) := by
  intro a b ha hb
  have hcl : (common a b).length ≤ 4194304 := Nat.le_trans (List.length_filter_le _ _) ha
  simp -implicitDefEqProofs
  refine callQ_of (hA a (ml ha)) ?_
  by_cases h1 : areVers a = true
  rotate_left
  · simp -implicitDefEqProofs [h1, bestCommon]
  simp -implicitDefEqProofs [h1]
  refine callQ_of (hA b (ml hb)) ?_
  by_cases h2 : areVers b = true
  rotate_left
  · simp -implicitDefEqProofs [h2, bestCommon]
  have e : bestCommon a b = maxF (common a b) := by unfold bestCommon; rw [if_pos ⟨h1, h2⟩]
  rw [e]
  simp -implicitDefEqProofs [h2]
  refine callQ_of (hC a b ha (ml hb)) ?_
  generalize common a b = l at hcl
  simp -implicitDefEqProofs
  refine swp_loop (fun k s => ∃ j, j + k = l.length ∧ s = ⟨[.undef, .undef, .undef, .sc (.int .i64 (maxF (l.take j))), .undef, .undef, .arr 0, .sc (.int .i64 l.length), .sc (.int .i64 j), .undef], [.arr 1 0 l.length (ints l)]⟩) ?_ l.length _ ⟨0, by simp, by simp [maxF]⟩
  intro k s ⟨j, hj, hs⟩
  subst hs
  by_cases hjn : j < l.length
  · have hw : IntKind.i64.wrap ((j : Int) + 1) = (j + 1 : Nat) := by rw [wrap_id (by omega) (by omega)]; simp
    have hst : maxF (l.take (j + 1)) = if l[j] > maxF (l.take j) then l[j] else maxF (l.take j) := by
      have e : l.take (j + 1) = l.take j ++ [l[j]] := by simp
      unfold maxF
      rw [e, List.foldl_append]; rfl
    simp -implicitDefEqProofs [hjn]
    exact ⟨k - 1, by omega, j + 1, by omega, by rw [hst], by simp [hw]⟩
  · have hx : l.take j = l := List.take_of_length_le (by omega)
    simp -implicitDefEqProofs [hjn, hx]
end Go.Eng.T

namespace Go.Eng.T
set_option maxRecDepth 20000
set_option maxHeartbeats 1000000

/-- a row under way from xs to its images -/
def mapJ {α : Type} (f : α → α) (xs : List α) (j : Nat) : List α := (xs.take j).map f ++ xs.drop j
section
variable {α : Type} {f : α → α} {xs : List α} {j : Nat}
theorem mapJ_zero : mapJ f xs 0 = xs := by simp [mapJ]
theorem mapJ_all (h : xs.length ≤ j) : mapJ f xs j = xs.map f := by simp [mapJ, List.take_of_length_le h, List.drop_eq_nil_of_le h]
@[simp] theorem mapJ_len (h : j ≤ xs.length) : (mapJ f xs j).length = xs.length := by simp [mapJ]; omega
theorem mapJ_get (h : j < xs.length) : (mapJ f xs j)[j]'(by rw [mapJ_len (by omega)]; exact h) = xs[j] := by
  unfold mapJ
  have hl : ((xs.take j).map f).length = j := by simp; omega
  have hm : min j xs.length = j := by omega
  rw [List.getElem_append_right (by omega)]
  simp [hm]
theorem mapJ_set (h : j < xs.length) : (mapJ f xs j).set j (f xs[j]) = mapJ f xs (j + 1) := by
  unfold mapJ
  have hl : ((xs.take j).map f).length = j := by simp; omega
  have ht : xs.take (j + 1) = xs.take j ++ [xs[j]] := by simp
  rw [List.set_append_right _ _ (by omega), hl, Nat.sub_self, ht, List.map_append, List.drop_eq_getElem_cons h, List.set_cons_zero, List.append_assoc]
  rfl
theorem mapJ_same (h : j < xs.length) (hf : f xs[j] = xs[j]) : mapJ f xs (j + 1) = mapJ f xs j := by
  rw [← mapJ_set h, hf]
  have := mapJ_get (f := f) h
  conv => lhs; rw [← this]
  simp
end
def leaveEnd (w : World) (e : Endpoint) : Endpoint := if 0 < bestCommon w.server (withoutV e.versions w.rollout.version) then ⟨withoutV e.versions w.rollout.version, e.tags, e.path, e.cls⟩ else e
def leave (w : World) : World := { w with ends := w.ends.map (leaveEnd w), stage := [] }
abbrev LeaveRolloutS (R : Rel) : Prop := ∀ w : World, szWorld w ≤ 4194304 → R [arg (eWorld w)] [] (.agg (eWorld (leave w))) []
theorem wv_len (a : List Int) (v : Int) : (withoutV a v).length ≤ a.length := List.length_filter_le _ _
theorem end_vers {w : World} (h : szWorld w ≤ 4194304) {j : Nat} (hj : j < w.ends.length) : w.ends[j].versions.length ≤ 4194304 := by
  have := size_at (f := szEndpoint) hj
  have e : szEndpoint w.ends[j] = w.ends[j].versions.length + w.ends[j].tags.length + sumF szBox w.ends[j].path := rfl
  unfold szWorld at h
  omega
theorem world_serv {w : World} (h : szWorld w ≤ 4194304) : w.server.length ≤ 4194304 := by unfold szWorld at h; omega
theorem leave_flat (w : World) : (leave w).ends.length = w.ends.length := by simp [leave]
theorem sLeaveRollout_b (D : Dn) (hC : cpWorldS (D gspec_l32Copy)) (hW : l12WithoutS (D gspec_l12Without)) (hB : BestCommonS (D gspec_BestCommon)) : LeaveRolloutS (Body D sspec_LeaveRollout) := by
  intro w h
  have hl := world_ends h
  simp -implicitDefEqProofs
  refine callQ_of (hC w h) ?_
  simp -implicitDefEqProofs
  refine swp_loop (fun k s => ∃ j v5 o9, j + k = w.ends.length ∧ s = ⟨[.undef, .ptr 0 0, .ptr 1 0, .ptr 8 0, .sc (.int .i64 j), v5, .undef, .undef], [.var ((eWorld w).map (roCell 1)), .var [.nil 1, .nil 1, .sc (.int .i64 0), .nil 4, .sc (.int .i64 0), .nil 1, .sc (.int .i64 0), .sc (.bool false), .sc (.int .i64 0), .sc (.int .i64 0), .nil 5, .nil 8, .sc (.int .i64 0), .sc (.int .i64 0), .sc (.int .i64 0)], .arr 1 0 w.server.length (ints w.server), .arr 1 0 w.tags.length (ints w.tags), .arr 4 0 w.ends.length ((mapJ (leaveEnd w) w.ends j).flatMap eEndpoint), .arr 1 0 w.rollout.stages.length (ints w.rollout.stages), .arr 5 0 w.stage.length (w.stage.flatMap eDialed), .arr 8 0 w.log.length (w.log.flatMap eLogged), .var [.arr 2, .arr 3, .sc (.int .i64 w.key), .arr 4, .sc (.int .i64 w.rollout.version), .arr 5, .sc (.int .i64 w.rollout.pos), .sc (.bool w.rollout.off), .sc (.int .i64 w.least), .sc (.int .i64 w.percent), .arr 6, .arr 7, .sc (.int .i64 w.now), .sc (.int .i64 w.hurt), .sc (.int .i64 w.reached)], o9, .free]⟩) ?_ w.ends.length _ ⟨0, by simp [mapJ_zero]⟩
  intro k s ⟨j, v5, o9, hj, hs⟩
  subst hs
  by_cases hjn : j < w.ends.length
  · have hw : IntKind.i64.wrap ((j : Int) + 1) = (j + 1 : Nat) := by rw [wrap_id (by omega) (by omega)]; simp
    have hjl : j ≤ w.ends.length := by omega
    have hset := mapJ_set (f := leaveEnd w) hjn
    have hg := mapJ_get (f := leaveEnd w) hjn
    have hvl := end_vers h hjn
    have hwl := wv_len w.ends[j].versions w.rollout.version
    have hf : j * 4 < w.ends.length * 4 := by omega
    simp -implicitDefEqProofs [hjn, hjl, hg]
    refine callQ_of (hW w.ends[j].versions _ hvl) ?_
    simp -implicitDefEqProofs
    refine callQ_of (hB w.server _ (world_serv h) (by omega)) ?_
    by_cases h1 : 0 < bestCommon w.server (withoutV w.ends[j].versions w.rollout.version)
    · have e : leaveEnd w w.ends[j] = ⟨withoutV w.ends[j].versions w.rollout.version, w.ends[j].tags, w.ends[j].path, w.ends[j].cls⟩ := by unfold leaveEnd; rw [if_pos h1]
      rw [e] at hset
      simp -implicitDefEqProofs [h1, hjn, hjl, hg, hf]
      exact ⟨k - 1, by omega, j + 1, by omega, by simp [hw], by rw [← hset]⟩
    · have e : leaveEnd w w.ends[j] = w.ends[j] := by unfold leaveEnd; rw [if_neg h1]
      have hsame := mapJ_same hjn e
      simp -implicitDefEqProofs [h1]
      exact ⟨k - 1, by omega, j + 1, by omega, by simp [hw], by rw [hsame]⟩
  · have hx := mapJ_all (f := leaveEnd w) (xs := w.ends) (j := j) (by omega)
    simp -implicitDefEqProofs [hjn, hx, leave]
theorem iLeaveRollout_b (D : Dn) (hC : cpWorldS (D gimpl_copyWorld)) (hW : withoutS (D gimpl_without)) (hB : BestCommonS (D gimpl_BestCommon)) : LeaveRolloutS (Body D simpl_LeaveRollout) := by
  intro w h
  have hl := world_ends h
  simp -implicitDefEqProofs
  refine callQ_of (hC w h) ?_
  simp -implicitDefEqProofs
  refine swp_loop (fun k s => ∃ j v5 v6 v7 o9 o10 o11, j + k = w.ends.length ∧ s = ⟨[.undef, .ptr 0 0, .ptr 1 0, .ptr 8 0, .sc (.int .i64 w.rollout.version), v5, v6, v7, .arr 4, .sc (.int .i64 w.ends.length), .sc (.int .i64 j), .undef, .undef], [.var ((eWorld w).map (roCell 1)), .var [.nil 1, .nil 1, .sc (.int .i64 0), .nil 4, .sc (.int .i64 0), .nil 1, .sc (.int .i64 0), .sc (.bool false), .sc (.int .i64 0), .sc (.int .i64 0), .nil 5, .nil 8, .sc (.int .i64 0), .sc (.int .i64 0), .sc (.int .i64 0)], .arr 1 0 w.server.length (ints w.server), .arr 1 0 w.tags.length (ints w.tags), .arr 4 0 w.ends.length ((mapJ (leaveEnd w) w.ends j).flatMap eEndpoint), .arr 1 0 w.rollout.stages.length (ints w.rollout.stages), .arr 5 0 w.stage.length (w.stage.flatMap eDialed), .arr 8 0 w.log.length (w.log.flatMap eLogged), .var [.arr 2, .arr 3, .sc (.int .i64 w.key), .arr 4, .sc (.int .i64 w.rollout.version), .arr 5, .sc (.int .i64 w.rollout.pos), .sc (.bool w.rollout.off), .sc (.int .i64 w.least), .sc (.int .i64 w.percent), .arr 6, .arr 7, .sc (.int .i64 w.now), .sc (.int .i64 w.hurt), .sc (.int .i64 w.reached)], o9, o10, o11]⟩) ?_ w.ends.length _ ⟨0, by simp [mapJ_zero]⟩
  intro k s ⟨j, v5, v6, v7, o9, o10, o11, hj, hs⟩
  subst hs
  by_cases hjn : j < w.ends.length
  · have hw : IntKind.i64.wrap ((j : Int) + 1) = (j + 1 : Nat) := by rw [wrap_id (by omega) (by omega)]; simp
    have hjl : j ≤ w.ends.length := by omega
    have hset := mapJ_set (f := leaveEnd w) hjn
    have hg := mapJ_get (f := leaveEnd w) hjn
    have hvl := end_vers h hjn
    have hwl := wv_len w.ends[j].versions w.rollout.version
    have hf : j * 4 < w.ends.length * 4 := by omega
    simp -implicitDefEqProofs [hjn, hjl, hg]
    refine callQ_of (hW w.ends[j].versions _ hvl) ?_
    by_cases h0 : (withoutV w.ends[j].versions w.rollout.version).length < w.ends[j].versions.length
    · have h0' : ((withoutV w.ends[j].versions w.rollout.version).length : Int) < w.ends[j].versions.length := by omega
      simp -implicitDefEqProofs [h0, h0']
      refine callQ_of (hB w.server _ (world_serv h) (by omega)) ?_
      by_cases h1 : 0 < bestCommon w.server (withoutV w.ends[j].versions w.rollout.version)
      · have e : leaveEnd w w.ends[j] = ⟨withoutV w.ends[j].versions w.rollout.version, w.ends[j].tags, w.ends[j].path, w.ends[j].cls⟩ := by unfold leaveEnd; rw [if_pos h1]
        rw [e] at hset
        simp -implicitDefEqProofs [h1, hjn, hjl, hg, hf]
        exact ⟨k - 1, by omega, j + 1, by omega, by simp [hw], by rw [← hset]⟩
      · have e : leaveEnd w w.ends[j] = w.ends[j] := by unfold leaveEnd; rw [if_neg h1]
        have hsame := mapJ_same hjn e
        simp -implicitDefEqProofs [h1]
        exact ⟨k - 1, by omega, j + 1, by omega, by simp [hw], by rw [hsame]⟩
    · have h0' : ¬ ((withoutV w.ends[j].versions w.rollout.version).length : Int) < w.ends[j].versions.length := by omega
      have e : leaveEnd w w.ends[j] = w.ends[j] := by
        have hall : withoutV w.ends[j].versions w.rollout.version = w.ends[j].versions := List.filter_eq_self.2 (by
          have := List.length_filter_eq_length_iff (p := fun x => !decide (x = w.rollout.version)) (l := w.ends[j].versions)
          exact this.1 (by unfold withoutV at h0 hwl; omega))
        unfold leaveEnd
        rw [hall]
        split <;> rfl
      have hsame := mapJ_same hjn e
      simp -implicitDefEqProofs [h0, h0']
      exact ⟨k - 1, by omega, j + 1, by omega, by simp [hw], by rw [hsame]⟩
  · have hx := mapJ_all (f := leaveEnd w) (xs := w.ends) (j := j) (by omega)
    simp -implicitDefEqProofs [hjn, hx, leave]
end Go.Eng.T

namespace Go.Eng.T

structure Ext where
  tag : Int
  body : List Int
  deriving DecidableEq
structure Hello where
  versions : List Int
  exts : List Ext
  deriving DecidableEq
structure Answer where
  version : Int
  exts : List Ext
  deriving DecidableEq
def eExt (x : Ext) : List V := [.sc (.int .i64 x.tag), .sl 0 1 x.body.length (ints x.body)]
def eHello (h : Hello) : List V := [.sl 0 1 h.versions.length (ints h.versions), .sl 0 2 h.exts.length (h.exts.flatMap eExt)]
def eAnswer (a : Answer) : List V := [.sc (.int .i64 a.version), .sl 0 2 a.exts.length (a.exts.flatMap eExt)]
theorem eExt_len (x : Ext) : (eExt x).length = 2 := rfl
@[simp] theorem eExt_ro (xs : List Ext) : (xs.flatMap eExt).map (roCell 0) = xs.flatMap eExt := flat_ro (fun _ => rfl) xs
@[simp high] theorem eExt_at {xs : List Ext} {j : Nat} (h : j < xs.length) : getAt (xs.flatMap eExt) (j * 2) 2 = some (eExt xs[j]) := getAt_flat eExt_len h
@[simp high] theorem eExt_flen (xs : List Ext) : (xs.flatMap eExt).length = xs.length * 2 := flat_len eExt_len xs
theorem eExt_push (xs : List Ext) (a : Int) (b : List Int) {nb : Nat} (hb : nb = b.length) : xs.flatMap eExt ++ [.sc (.int .i64 a), .sl 0 1 nb (ints b)] = (xs ++ [(⟨a, b⟩ : Ext)]).flatMap eExt := by subst hb; simp [eExt]
@[simp high] theorem eExt_c0 {xs : List Ext} {j : Nat} (h : j < xs.length) : (xs.flatMap eExt)[j * 2]? = some (.sc (.int .i64 xs[j].tag)) := by
  have := getCell_flat (o := 0) eExt_len h (by omega)
  simpa [eExt] using this
@[simp high] theorem eExt_c1 {xs : List Ext} {j : Nat} (h : j < xs.length) : (xs.flatMap eExt)[j * 2 + 1]? = some (.sl 0 1 xs[j].body.length (ints xs[j].body)) := by
  have := getCell_flat (o := 1) eExt_len h (by omega)
  simpa [eExt] using this
theorem flat_take {α : Type} {f : α → List V} {e : Nat} (hf : ∀ x, (f x).length = e) (xs : List α) (i : Nat) : (xs.flatMap f).take (i * e) = (xs.take i).flatMap f := by
  induction xs generalizing i with
  | nil => simp
  | cons x xs ih =>
    cases i with
    | zero => simp
    | succ i =>
      simp only [List.flatMap_cons, List.take_succ_cons]
      rw [← ih i, show (i + 1) * e = (f x).length + i * e by rw [hf, Nat.add_mul]; omega, List.take_length_add_append]
theorem part_flat {α : Type} {f : α → List V} {e : Nat} (hf : ∀ x, (f x).length = e) (xs : List α) (o n : Nat) : part (xs.flatMap f) e o n = ((xs.drop o).take n).flatMap f := by
  unfold part
  rw [flat_drop hf, flat_take hf]
@[simp high] theorem eExt_part (xs : List Ext) (o n : Nat) : part (xs.flatMap eExt) 2 o n = ((xs.drop o).take n).flatMap eExt := part_flat eExt_len xs o n
attribute [simp] eExt eHello eAnswer

/-- lists that are small enough to be copied -/
def exB (l : List Ext) : Prop := l.length ≤ 4194304 ∧ ∀ x, x ∈ l → x.body.length ≤ 4194304
theorem exB_at {l : List Ext} (h : exB l) {j : Nat} (hj : j < l.length) : l[j].body.length ≤ 4194304 := h.2 _ (List.getElem_mem hj)
theorem exB_nil : exB [] := ⟨by simp, by simp⟩
theorem exB_filter {l : List Ext} (h : exB l) (p : Ext → Bool) : exB (l.filter p) :=
  ⟨Nat.le_trans (List.length_filter_le p l) h.1, fun x hx => h.2 x (List.mem_filter.1 hx).1⟩
theorem exB_take {l : List Ext} (h : exB l) (n : Nat) : exB (l.take n) :=
  ⟨by have := h.1; simp; omega, fun x hx => h.2 x (List.mem_of_mem_take hx)⟩
theorem exB_one {l : List Ext} (h : exB l) {j : Nat} (hj : j < l.length) : exB [l[j]] :=
  ⟨by simp, fun x hx => by obtain rfl := List.mem_singleton.1 hx; exact exB_at h hj⟩

/-- for all i less than j -/
def allTo (q : Nat → Bool) (j : Nat) : Bool := (List.range j).all q
@[simp] theorem allTo_zero (q : Nat → Bool) : allTo q 0 = true := rfl
theorem allTo_step (q : Nat → Bool) (j : Nat) : allTo q (j + 1) = (allTo q j && q j) := by
  unfold allTo
  rw [List.range_succ, List.all_append]
  simp
theorem allTo_no {q : Nat → Bool} {j n : Nat} (h : j < n) (hn : q j = false) : allTo q n = false := by
  have : ∀ m, allTo q (j + 1 + m) = false := by
    intro m
    induction m with
    | zero => rw [Nat.add_zero, allTo_step, hn]; simp
    | succ m ih => rw [show j + 1 + (m + 1) = (j + 1 + m) + 1 by omega, allTo_step, ih]; rfl
  have := this (n - (j + 1))
  rwa [show j + 1 + (n - (j + 1)) = n by omega] at this
theorem allTo_iff {q : Nat → Bool} {n : Nat} : allTo q n = true ↔ ∀ i, i < n → q i = true := by
  unfold allTo
  rw [List.all_eq_true]
  simp
theorem filtE_step {α : Type} {p : α → Bool} {xs : List α} {j : Nat} (h : j < xs.length) : (xs.take (j + 1)).filter p = (xs.take j).filter p ++ (if p xs[j] then [xs[j]] else []) := by
  have e : xs.take (j + 1) = xs.take j ++ [xs[j]] := by simp
  rw [e, List.filter_append]
  by_cases hp : p xs[j] = true <;> simp [hp]
theorem filtE_all {α : Type} {p : α → Bool} {xs : List α} {j : Nat} (h : xs.length ≤ j) : (xs.take j).filter p = xs.filter p := by rw [List.take_of_length_le h]
theorem filtE_len {α : Type} {p : α → Bool} {xs : List α} {j : Nat} : ((xs.take j).filter p).length ≤ j := by
  have := List.length_filter_le p (xs.take j)
  have h2 : (xs.take j).length ≤ j := by simp; omega
  omega
end Go.Eng.T

namespace Go.Eng.T
set_option maxRecDepth 20000

theorem allIn_step {xs : List Int} {lo hi : Int} {j : Nat} (h : j < xs.length) : allIn (xs.take (j + 1)) lo hi = (allIn (xs.take j) lo hi && decide (InR xs[j] lo hi)) := by
  have e : xs.take (j + 1) = xs.take j ++ [xs[j]] := by simp
  unfold allIn
  rw [e, List.all_append]; simp
theorem allIn_no {xs : List Int} {lo hi : Int} {j : Nat} (h : j < xs.length) (hn : ¬ InR xs[j] lo hi) : allIn xs lo hi = false := by
  unfold allIn
  rw [List.all_eq_false]
  exact ⟨xs[j], List.getElem_mem h, by simp [hn]⟩
theorem allIn_all {xs : List Int} {lo hi : Int} {j : Nat} (h : xs.length ≤ j) (ha : allIn (xs.take j) lo hi = true) : allIn xs lo hi = true := by rwa [List.take_of_length_le h] at ha
abbrev l9ByteS (R : Rel) : Prop := ∀ xs : List Int, xs.length ≤ maxLen → R [.sl 1 1 xs.length (ints xs)] [] (B (allIn xs 0 255)) []
def isBox (b : Box) : Bool := decide (InR b.limit 0 9) && decide (b.drops.length ≤ 6) && decide (b.strips.length ≤ 6) && allIn b.drops 0 255 && allIn b.strips 0 255
abbrev IsBoxS (R : Rel) : Prop := ∀ b : Box, lnBox b → R [arg (eBox b)] [] (B (isBox b)) []
def stepBox (w : World) (i : Int) (b : Box) : World × Bool :=
  if 0 ≤ i then (match w.ends[i.toNat]? with
    | some x => if isBox b = true ∧ x.path.length < 4 then ({ w with ends := w.ends.set i.toNat ⟨x.versions, x.tags, x.path ++ [b], x.cls⟩ }, true) else (w, false)
    | none => (w, false)) else (w, false)
abbrev StepBoxS (R : Rel) : Prop := ∀ (w : World) (i : Int) (b : Box), szWorld w ≤ 4194304 → szBox b ≤ 4194304 → R [arg (eWorld w), I i, arg (eBox b)] [] (.tup [.agg (eWorld (stepBox w i b).1), B (stepBox w i b).2]) []
theorem stepBox_out {w : World} {i : Int} {b : Box} (h : ¬ InQ i 0 ((w.ends.length : Int) - 1)) : stepBox w i b = (w, false) := by
  unfold stepBox
  by_cases h0 : 0 ≤ i
  · rw [if_pos h0, List.getElem?_eq_none (by omega)]
  · rw [if_neg h0]
theorem ln_of_sz {b : Box} (h : szBox b ≤ 4194304) : lnBox b := by unfold szBox at h; unfold lnBox lnInts maxLen; omega
theorem stepBox_sz (w : World) (i : Int) (b : Box) : szWorld (stepBox w i b).1 ≤ szWorld w + 1 + szBox b := by
  unfold stepBox
  split
  · split
    · rename_i x hx
      split
      · obtain ⟨hj, rfl⟩ := List.getElem?_eq_some_iff.1 hx
        have := size_set (f := szEndpoint) hj ⟨w.ends[i.toNat].versions, w.ends[i.toNat].tags, w.ends[i.toNat].path ++ [b], w.ends[i.toNat].cls⟩
        have e1 : szEndpoint ⟨w.ends[i.toNat].versions, w.ends[i.toNat].tags, w.ends[i.toNat].path ++ [b], w.ends[i.toNat].cls⟩ = szEndpoint w.ends[i.toNat] + 1 + szBox b := by unfold szEndpoint sumF; simp; omega
        simp only [szWorld]
        omega
      · show szWorld w ≤ _; omega
    · show szWorld w ≤ _; omega
  · show szWorld w ≤ _; omega
end Go.Eng.T

namespace Go.Eng.T
set_option maxRecDepth 20000
abbrev IndexFuncEndpointS (D : Dn) (R : Rel) : Prop := ∀ (xs : List Endpoint) (g : Nat) (caps : List V) (p : Endpoint → Bool), xs.length ≤ maxLen → CapOk caps → (∀ (j : Nat) (h : j < xs.length), D g (arg (eEndpoint xs[j]) :: caps) [] (B (p xs[j])) []) → R [.sl 1 4 xs.length (xs.flatMap eEndpoint), .fn g caps] [] (I (idxP p xs 0)) []
abbrev ContainsFuncEndpointS (D : Dn) (R : Rel) : Prop := ∀ (xs : List Endpoint) (g : Nat) (caps : List V) (p : Endpoint → Bool), xs.length ≤ maxLen → CapOk caps → (∀ (j : Nat) (h : j < xs.length), D g (arg (eEndpoint xs[j]) :: caps) [] (B (p xs[j])) []) → R [.sl 1 4 xs.length (xs.flatMap eEndpoint), .fn g caps] [] (B (xs.any p)) []
abbrev IndexFuncLoggedS (D : Dn) (R : Rel) : Prop := ∀ (xs : List Logged) (g : Nat) (caps : List V) (p : Logged → Bool), xs.length ≤ maxLen → CapOk caps → (∀ (j : Nat) (h : j < xs.length), D g (arg (eLogged xs[j]) :: caps) [] (B (p xs[j])) []) → R [.sl 1 8 xs.length (xs.flatMap eLogged), .fn g caps] [] (I (idxP p xs 0)) []
abbrev ContainsFuncLoggedS (D : Dn) (R : Rel) : Prop := ∀ (xs : List Logged) (g : Nat) (caps : List V) (p : Logged → Bool), xs.length ≤ maxLen → CapOk caps → (∀ (j : Nat) (h : j < xs.length), D g (arg (eLogged xs[j]) :: caps) [] (B (p xs[j])) []) → R [.sl 1 8 xs.length (xs.flatMap eLogged), .fn g caps] [] (B (xs.any p)) []
abbrev IndexFuncBoxS (D : Dn) (R : Rel) : Prop := ∀ (xs : List Box) (g : Nat) (caps : List V) (p : Box → Bool), xs.length ≤ maxLen → CapOk caps → (∀ (j : Nat) (h : j < xs.length), D g (arg (eBox xs[j]) :: caps) [] (B (p xs[j])) []) → R [.sl 1 4 xs.length (xs.flatMap eBox), .fn g caps] [] (I (idxP p xs 0)) []
abbrev ContainsFuncBoxS (D : Dn) (R : Rel) : Prop := ∀ (xs : List Box) (g : Nat) (caps : List V) (p : Box → Bool), xs.length ≤ maxLen → CapOk caps → (∀ (j : Nat) (h : j < xs.length), D g (arg (eBox xs[j]) :: caps) [] (B (p xs[j])) []) → R [.sl 1 4 xs.length (xs.flatMap eBox), .fn g caps] [] (B (xs.any p)) []
end Go.Eng.T

namespace Go.Eng.T
set_option maxRecDepth 20000

theorem sz_up {xs : List Logged} {j : Nat} (h : j < xs.length) : xs[j].dialed.up.length ≤ sumF szLogged xs := by
  have := size_at (f := szLogged) h
  simp only [szLogged, szDialed] at this ⊢
  omega
theorem world_up {w : World} (h : szWorld w ≤ 4194304) {j : Nat} (hj : j < w.log.length) : w.log[j].dialed.up.length ≤ maxLen := by
  have := sz_up hj
  unfold szWorld at h
  unfold maxLen; omega

def hurtL (w : World) (l : Logged) : Bool := l.on && badD w.rollout.version l.dialed
abbrev HurtS (R : Rel) : Prop := ∀ (w : World) (l : Logged), l.dialed.up.length ≤ maxLen → R [arg (eWorld w), arg (eLogged l)] [] (B (hurtL w l)) []
abbrev IsCountedS (R : Rel) : Prop := ∀ (w : World), szWorld w ≤ 4194304 → R [arg (eWorld w)] [] (B (decide (w.hurt = cntF (hurtL w) w.log))) []
end Go.Eng.T

namespace Go.Eng.T
set_option maxRecDepth 20000

def isReserved (t : Int) : Bool := decide (InR t 0 255) && decide (t.tmod 16 = 10)
abbrev IsReservedS (R : Rel) : Prop := ∀ t : Int, R [I t] [] (B (isReserved t)) []
abbrev IsHardenedS (R : Rel) : Prop := ∀ xs : List Int, xs.length ≤ maxLen → R [.sl 1 1 xs.length (ints xs)] [] (B (xs.any isReserved)) []
theorem any_here {α : Type} {p : α → Bool} {xs : List α} {j : Nat} (h : j < xs.length) (hp : p xs[j] = true) : xs.any p = true := List.any_eq_true.2 ⟨_, List.getElem_mem h, hp⟩
theorem any_step {α : Type} {p : α → Bool} {xs : List α} {j : Nat} (h : j < xs.length) : (xs.take (j + 1)).any p = ((xs.take j).any p || p xs[j]) := by
  have e : xs.take (j + 1) = xs.take j ++ [xs[j]] := by simp
  rw [e, List.any_append]; simp
theorem any_none {α : Type} {p : α → Bool} {xs : List α} {j : Nat} (h : xs.length ≤ j) (ha : (xs.take j).any p = false) : xs.any p = false := by rwa [List.take_of_length_le h] at ha
def drunkL (l : Logged) : Bool := l.dialed.deal.ok && (l.dialed.deal.tags.any isReserved || !decide (InR l.dialed.deal.version 1 9))
abbrev IsSoberS (R : Rel) : Prop := ∀ w : World, szWorld w ≤ 4194304 → R [arg (eWorld w)] [] (B (!w.log.any drunkL)) []
theorem world_dtags {w : World} (h : szWorld w ≤ 4194304) {j : Nat} (hj : j < w.log.length) : w.log[j].dialed.deal.tags.length ≤ maxLen := by
  have := size_at (f := szLogged) hj
  have e : szLogged w.log[j] = w.log[j].dialed.deal.tags.length + w.log[j].dialed.up.length := rfl
  unfold szWorld at h
  unfold maxLen; omega
abbrev IsSober1S (R : Rel) : Prop := ∀ l : Logged, l.dialed.deal.tags.length ≤ maxLen → R [arg (eLogged l)] [] (B (drunkL l)) []
end Go.Eng.T

namespace Go.Eng.T
def simplV_EnterStage_r0 : Reg :=
  { id := 0, ops := [{ op := .box 0 (.slot 0) },
      { op := .alloc 1 [.nil 1, .nil 1, .sc (.int .i64 0), .nil 4, .sc (.int .i64 0), .nil 1, .sc (.int .i64 0), .sc (.bool false), .sc (.int .i64 0), .sc (.int .i64 0), .nil 5, .nil 8, .sc (.int .i64 0), .sc (.int .i64 0), .sc (.int .i64 0)] }], sets := [(1, 0), (2, 1)], clr := [0] }
def simplV_EnterStage_r1 : Reg :=
  { id := 1, draw := true, ops := [{ op := .load (some 15) (.slot 1), tau := some [0], om := [] },
      { op := .call 38 [(false, .loc 0)] [2, 3, 4, 5, 6, 7], tau := some [2, 3, 4, 5, 6, 7], om := [2, 3, 4, 5, 6, 7] },
      { op := .fieldAddr (.slot 1) 4, tau := some [], om := [] },
      { op := .load (some 4) (.loc 2), tau := some [0], om := [] },
      { op := .alloc 8 [.nil 1, .nil 1, .sc (.int .i64 0), .nil 4, .sc (.int .i64 0), .nil 1, .sc (.int .i64 0), .sc (.bool false), .sc (.int .i64 0), .sc (.int .i64 0), .nil 5, .nil 8, .sc (.int .i64 0), .sc (.int .i64 0), .sc (.int .i64 0)], tau := some [8], om := [8] },
      { op := .alloc 9 [.sc (.int .i64 0), .nil 1, .sc (.int .i64 0), .sc (.bool false)], tau := some [9], om := [9] },
      { op := .store 15 (.loc 4) (.loc 1), tau := some [8, 11], om := [8] },
      { op := .store 4 (.loc 5) (.loc 3), tau := some [9, 11], om := [9] }], sets := [(3, 4), (4, 5)] }
def simplV_EnterStage_r2 : Reg :=
  { id := 2, ops := [{ op := .load (some 4) (.slot 4) },
      { op := .call 176 [(false, .loc 0)] [] },
      { op := .un .not (.loc 1) },
      { op := .mv (.loc 2) },
      { op := .fieldAddr (.slot 4) 3, guard := some (3, false) },
      { op := .load none (.loc 4), guard := some (3, false) },
      { op := .pick (.loc 3) (.con (.sc (.bool true))) (.loc 5) }], sets := [(6, 6)] }
def simplV_EnterStage_r3 : Reg :=
  { id := 3, ops := [{ op := .load (some 15) (.slot 3) },
      { op := .store 15 (.slot 2) (.loc 0) }], clr := [1, 3, 4] }
def simplV_EnterStage_r4 : Reg :=
  { id := 4, ops := [{ op := .fieldAddr (.slot 3) 3 },
      { op := .load none (.loc 0) },
      { op := .len false (.loc 1) },
      { op := .mv (.con (.sc (.int .i64 0))) }], sets := [(7, 2), (8, 3)] }
def simplV_EnterStage_r5 : Reg :=
  { id := 5, ops := [{ op := .bin .lss (.slot 8) (.slot 7) }], sets := [(9, 0)] }
def simplV_EnterStage_r6 : Reg :=
  { id := 6, ops := [{ op := .mv (.slot 8) },
      { op := .mv (.loc 0) }], sets := [(5, 1)] }
def simplV_EnterStage_r7 : Reg :=
  { id := 7, ops := [{ op := .load (some 4) (.slot 4) },
      { op := .mv (.slot 5) },
      { op := .fieldAddr (.slot 3) 3 },
      { op := .load none (.loc 2) },
      { op := .len false (.loc 3) },
      { op := .call 228 [(false, .loc 0), (false, .loc 1), (false, .loc 4)] [] }], sets := [(10, 5)] }
def simplV_EnterStage_r8 : Reg :=
  { id := 8, draw := true, fresh := [10, 11], ops := [{ op := .fieldAddr (.slot 3) 3, tau := some [], om := [] },
      { op := .load none (.loc 0), tau := some [8], om := [] },
      { op := .mv (.slot 5), tau := some [], om := [] },
      { op := .fieldAddr (.slot 3) 3, tau := some [], om := [] },
      { op := .load none (.loc 3), tau := some [8], om := [] },
      { op := .mv (.slot 5), tau := some [], om := [] },
      { op := .indexAddr 4 (.loc 4) (.loc 5), tau := some [4], om := [] },
      { op := .fieldAddr (.loc 6) 0, tau := some [], om := [] },
      { op := .take 11 (.loc 7), tau := some [4, 11], om := [4, 11] },
      { op := .fieldAddr (.slot 4) 0, tau := some [], om := [] },
      { op := .load none (.loc 9), tau := some [9], om := [] },
      { op := .call 230 [(true, .loc 8), (false, .loc 10)] [10], tau := some [10, 11], om := [10, 11] },
      { op := .indexAddr 4 (.loc 1) (.loc 2), tau := some [4], om := [] },
      { op := .fieldAddr (.loc 12) 0, tau := some [], om := [] },
      { op := .store 1 (.loc 13) (.loc 11), tau := some [4, 10, 11], om := [4, 10] }], clr := [5] }
def simplV_EnterStage_r9 : Reg :=
  { id := 9, ops := [{ op := .bin .add (.slot 8) (.con (.sc (.int .i64 1))) },
      { op := .mv (.loc 0) }], sets := [(8, 1)] }
def simplV_EnterStage_r10 : Reg :=
  { id := 10, draw := true, ops := [{ op := .fieldAddr (.slot 1) 14, tau := some [], om := [] },
      { op := .load none (.loc 0), tau := some [0], om := [] },
      { op := .fieldAddr (.slot 4) 2, tau := some [], om := [] },
      { op := .load none (.loc 2), tau := some [9], om := [] },
      { op := .bin .add (.loc 3) (.con (.sc (.int .i64 1))), tau := some [], om := [] },
      { op := .minmax true (.loc 1) [.loc 4], tau := some [], om := [] },
      { op := .fieldAddr (.slot 3) 10, tau := some [], om := [] },
      { op := .store 1 (.loc 6) (.con (.nil 5)), tau := some [8, 11], om := [8] },
      { op := .fieldAddr (.slot 3) 14, tau := some [], om := [] },
      { op := .store 1 (.loc 8) (.loc 5), tau := some [8, 11], om := [8] }], clr := [1, 4, 7, 8] }
def simplV_EnterStage_r11 : Reg :=
  { id := 11, ops := [{ op := .load (some 15) (.slot 3) },
      { op := .store 15 (.slot 2) (.loc 0) }], clr := [3] }
def simplV_EnterStage_b : SC := .seq (.reg simplV_EnterStage_r0) (.seq (.reg simplV_EnterStage_r1) (.seq (.seq (.reg simplV_EnterStage_r2) (.cond 6 (.seq (.reg simplV_EnterStage_r3) (.ret)) (.skip))) (.seq (.seq (.reg simplV_EnterStage_r4) (.block 0 (.loop (.seq (.reg simplV_EnterStage_r5) (.seq (.cond 9 (.skip) (.exit 0)) (.seq (.block 1 (.seq (.reg simplV_EnterStage_r6) (.seq (.reg simplV_EnterStage_r7) (.cond 10 (.reg simplV_EnterStage_r8) (.skip))))) (.reg simplV_EnterStage_r9))))))) (.seq (.reg simplV_EnterStage_r10) (.seq (.reg simplV_EnterStage_r11) (.ret))))))
def simplV_EnterStage : SFn := { nslots := 11, nobjs := 12, params := [0], ngiven := 0, bor := false, takes := [11], body := simplV_EnterStage_b, results := [.cell 2 (some 15)] }
def simplV_EnterStage_t : List Tmp := [0, 1, 2, 3, 4, 5, 16, 20, 21, 22, 29]
attribute [simp] simplV_EnterStage_r0 simplV_EnterStage_r1 simplV_EnterStage_r2 simplV_EnterStage_r3 simplV_EnterStage_r4 simplV_EnterStage_r5 simplV_EnterStage_r6 simplV_EnterStage_r7 simplV_EnterStage_r8 simplV_EnterStage_r9 simplV_EnterStage_r10 simplV_EnterStage_r11 simplV_EnterStage_b simplV_EnterStage
def simplV_withVersion_r0 : Reg :=
  { id := 0, ops := [{ op := .mv (.con (.nil 1)) }], clr := [2] }
def simplV_withVersion_r1 : Reg :=
  { id := 1, ops := [{ op := .mv (.con (.sc (.int .i64 0))) }], sets := [(3, 0)] }
def simplV_withVersion_r2 : Reg :=
  { id := 2, ops := [{ op := .mv (.slot 3) },
      { op := .mv (.slot 0) },
      { op := .len false (.loc 1) },
      { op := .bin .lss (.loc 0) (.loc 2) },
      { op := .mv (.loc 3) },
      { op := .mv (.slot 0), guard := some (4, true) },
      { op := .mv (.slot 3), guard := some (4, true) },
      { op := .indexAddr 1 (.loc 5) (.loc 6), guard := some (4, true) },
      { op := .load none (.loc 7), guard := some (4, true) },
      { op := .mv (.slot 1), guard := some (4, true) },
      { op := .bin .lss (.loc 8) (.loc 9), guard := some (4, true) },
      { op := .pick (.loc 4) (.loc 10) (.con (.sc (.bool false))) }], sets := [(4, 11)] }
def simplV_withVersion_r3 : Reg :=
  { id := 3, ops := [{ op := .mv (.slot 3) },
      { op := .bin .add (.loc 0) (.con (.sc (.int .i64 1))) },
      { op := .mv (.loc 1) }], sets := [(3, 2)] }
def simplV_withVersion_r4 : Reg :=
  { id := 4, ops := [{ op := .mv (.slot 3) },
      { op := .mv (.slot 0) },
      { op := .len false (.loc 1) },
      { op := .bin .lss (.loc 0) (.loc 2) },
      { op := .mv (.loc 3) },
      { op := .mv (.slot 0), guard := some (4, true) },
      { op := .mv (.slot 3), guard := some (4, true) },
      { op := .indexAddr 1 (.loc 5) (.loc 6), guard := some (4, true) },
      { op := .load none (.loc 7), guard := some (4, true) },
      { op := .mv (.slot 1), guard := some (4, true) },
      { op := .bin .eql (.loc 8) (.loc 9), guard := some (4, true) },
      { op := .pick (.loc 4) (.loc 10) (.con (.sc (.bool false))) }], sets := [(5, 11)] }
def simplV_withVersion_r5 : Reg :=
  { id := 5, ops := [{ op := .mv (.slot 0) },
      { op := .mv (.loc 0) }], sets := [(2, 1)], clr := [0, 1, 3] }
def simplV_withVersion_r6 : Reg :=
  { id := 6, ops := [{ op := .mv (.slot 0) },
      { op := .mv (.slot 3) },
      { op := .mv (.slot 1) },
      { op := .buildSlice 1 1 1 [.loc 2] },
      { op := .call 264 [(true, .loc 0), (false, .loc 1), (true, .loc 3)] [2] },
      { op := .mv (.loc 4) }], sets := [(2, 5)], clr := [0, 1, 3] }
def simplV_withVersion_b : SC := .seq (.reg simplV_withVersion_r0) (.seq (.reg simplV_withVersion_r1) (.seq (.block 0 (.loop (.seq (.seq (.reg simplV_withVersion_r2) (.cond 4 (.skip) (.exit 0))) (.block 1 (.reg simplV_withVersion_r3))))) (.seq (.seq (.reg simplV_withVersion_r4) (.cond 5 (.seq (.reg simplV_withVersion_r5) (.ret)) (.skip))) (.seq (.reg simplV_withVersion_r6) (.ret)))))
def simplV_withVersion : SFn := { nslots := 6, nobjs := 3, params := [0, 1], ngiven := 1, bor := false, takes := [], body := simplV_withVersion_b, results := [.slot 2] }
def simplV_withVersion_t : List Tmp := [0, 1, 4, 5, 17, 31]
attribute [simp] simplV_withVersion_r0 simplV_withVersion_r1 simplV_withVersion_r2 simplV_withVersion_r3 simplV_withVersion_r4 simplV_withVersion_r5 simplV_withVersion_r6 simplV_withVersion_b simplV_withVersion
end Go.Eng.T

namespace Go.Eng.T
set_option maxRecDepth 20000
abbrev IndexFuncExtS (D : Dn) (R : Rel) : Prop := ∀ (xs : List Ext) (g : Nat) (caps : List V) (p : Ext → Bool), xs.length ≤ maxLen → CapOk caps → (∀ (j : Nat) (h : j < xs.length), D g (arg (eExt xs[j]) :: caps) [] (B (p xs[j])) []) → R [.sl 1 2 xs.length (xs.flatMap eExt), .fn g caps] [] (I (idxP p xs 0)) []
abbrev ContainsFuncExtS (D : Dn) (R : Rel) : Prop := ∀ (xs : List Ext) (g : Nat) (caps : List V) (p : Ext → Bool), xs.length ≤ maxLen → CapOk caps → (∀ (j : Nat) (h : j < xs.length), D g (arg (eExt xs[j]) :: caps) [] (B (p xs[j])) []) → R [.sl 1 2 xs.length (xs.flatMap eExt), .fn g caps] [] (B (xs.any p)) []
end Go.Eng.T

namespace Go.Eng.T
set_option maxRecDepth 20000

def hasTag (t : Int) (x : Ext) : Bool := decide (x.tag = t)
def extOf (l : List Ext) (t : Int) : Int := idxP (hasTag t) l 0
abbrev ExtOfS (R : Rel) : Prop := ∀ (l : List Ext) (t : Int), l.length ≤ maxLen → R [.sl 1 2 l.length (l.flatMap eExt), I t] [] (I (extOf l t)) []
abbrev ExtOf1S (R : Rel) : Prop := ∀ (x : Ext) (t : Int), R [arg (eExt x), .rptr 1 [I t] 0] [] (B (hasTag t x)) []
def okExt (x : Ext) : Bool := decide (InR x.tag 0 255) && (decide (x.body.length ≤ 4) && allIn x.body 0 255)
def newTag (l : List Ext) (i : Nat) : Bool := match l[i]? with
  | some x => okExt x && !(l.take i).any (hasTag x.tag)
  | none => true
theorem newTag_at {l : List Ext} {i : Nat} (h : i < l.length) : newTag l i = (okExt l[i] && !(l.take i).any (hasTag l[i].tag)) := by
  unfold newTag
  rw [List.getElem?_eq_getElem h]
def areExts (l : List Ext) : Bool := allTo (newTag l) l.length && decide (l.length ≤ 6)
theorem idxP_range {α : Type} {p : α → Bool} : ∀ {xs : List α} {i : Int}, idxP p xs i = -1 ∨ (i ≤ idxP p xs i ∧ idxP p xs i < i + xs.length)
  | [], i => .inl rfl
  | x :: r, i => by
    by_cases hp : p x = true
    · right; simp [idxP, hp]; omega
    · rcases idxP_range (p := p) (xs := r) (i := i + 1) with h | h
      · left; simp [idxP, hp, h]
      · right; simp [idxP, hp] at *; omega
/-- the first place lies before j -/
theorem idxP_lt {α : Type} {p : α → Bool} : ∀ {xs : List α} {i : Int} {j : Nat}, 0 ≤ i → (h : j < xs.length) → p xs[j] = true → (idxP p xs i < i + j ↔ (xs.take j).any p = true)
  | x :: r, i, 0, hi, h, hp => by
    have : p x = true := hp
    simp [idxP, this]
  | x :: r, i, j + 1, hi, h, hp => by
    by_cases hx : p x = true
    · simp [idxP, hx]; omega
    · have := idxP_lt (p := p) (xs := r) (i := i + 1) (j := j) (by omega) (by simpa using h) (by simpa using hp)
      simp only [idxP, hx, List.take_succ_cons, List.any_cons, Bool.false_or]
      rw [← this]
      simp
      omega
theorem extOf_lt {l : List Ext} {j : Nat} (h : j < l.length) : (extOf l l[j].tag < (j : Int)) = ((l.take j).any (hasTag l[j].tag) = true) := by
  have := idxP_lt (p := hasTag l[j].tag) (i := 0) (by omega) h (by simp [hasTag])
  rw [Int.zero_add] at this
  exact propext this
theorem extOf_take {l : List Ext} {j : Nat} {t : Int} : (0 ≤ extOf (l.take j) t) = ((l.take j).any (hasTag t) = true) := idxP_ge (by omega)
theorem areExts_no {l : List Ext} {j : Nat} (h : j < l.length) (hn : newTag l j = false) : areExts l = false := by
  unfold areExts
  rw [allTo_no h hn]; rfl
abbrev AreExtsS (R : Rel) : Prop := ∀ l : List Ext, exB l → R [.sl 1 2 l.length (l.flatMap eExt)] [] (B (areExts l)) []
def tagsOf (l : List Ext) : List Int := l.map (·.tag)
theorem tags_step {l : List Ext} {j : Nat} (h : j < l.length) : tagsOf (l.take (j + 1)) = tagsOf (l.take j) ++ [l[j].tag] := by
  have e : l.take (j + 1) = l.take j ++ [l[j]] := by simp
  unfold tagsOf
  rw [e, List.map_append]; rfl
abbrev TagsOfS (R : Rel) : Prop := ∀ l : List Ext, l.length ≤ 4194304 → R [.sl 1 2 l.length (l.flatMap eExt)] [] (.sl 0 1 (tagsOf l).length (ints (tagsOf l))) []
end Go.Eng.T

namespace Go.Eng.T
set_option maxRecDepth 20000
def kept (p : Int → Bool) (l : List Ext) : List Ext := l.filter fun x => p x.tag
theorem kept_step {p : Int → Bool} {l : List Ext} {j : Nat} (h : j < l.length) : kept p (l.take (j + 1)) = kept p (l.take j) ++ (if p l[j].tag then [l[j]] else []) := filtE_step (p := fun x : Ext => p x.tag) h
theorem kept_all {p : Int → Bool} {l : List Ext} {j : Nat} (h : l.length ≤ j) : kept p (l.take j) = kept p l := filtE_all h
theorem kept_len {p : Int → Bool} {l : List Ext} {j : Nat} : (kept p (l.take j)).length ≤ j := filtE_len
theorem exB_kept {l : List Ext} (h : exB l) (p : Int → Bool) : exB (kept p l) := exB_filter h _
theorem kept_push {p : Int → Bool} {l : List Ext} {j : Nat} (h : j < l.length) (hp : p l[j].tag = true) :
    (kept p (l.take j)).flatMap eExt ++ [.sc (.int .i64 l[j].tag), .sl 0 1 l[j].body.length (ints l[j].body)] = (kept p (l.take (j + 1))).flatMap eExt := by
  rw [kept_step h, if_pos hp, List.flatMap_append]; simp
theorem kept_push_len {p : Int → Bool} {l : List Ext} {j : Nat} (h : j < l.length) (hp : p l[j].tag = true) : (kept p (l.take (j + 1))).length = (kept p (l.take j)).length + 1 := by
  rw [kept_step h, if_pos hp]; simp
theorem kept_skip {p : Int → Bool} {l : List Ext} {j : Nat} (h : j < l.length) (hp : ¬ p l[j].tag = true) : kept p (l.take (j + 1)) = kept p (l.take j) := by
  rw [kept_step h, if_neg hp, List.append_nil]
/-- what is captured holds nothing of the frame -/
def NoObj (caps : List V) : Prop := ∀ k, caps.any (m1 k) = false
theorem noObj_nil : NoObj [] := fun _ => rfl
theorem noObj_rptr {fl : Nat} {cs : List V} {o : Nat} {r : List V} (h : NoObj r) : NoObj (.rptr fl cs o :: r) := fun k => by
  have := h k
  simp only [List.any_cons, this, m1, Bool.or_self]
theorem killV_cap {k g : Nat} {caps : List V} (h : NoObj caps) : killV k (.fn g caps) = .fn g caps := by
  have := h k
  simp only [killV, m3, m2, this]
  rfl
theorem renV_cap {a b g : Nat} {caps : List V} (h : NoObj caps) : renV a b (.fn g caps) = .fn g caps := by
  have := h a
  simp only [renV, m3, m2, this]
  rfl
abbrev keptExtsS (D : Dn) (R : Rel) : Prop := ∀ (l : List Ext) (g : Nat) (caps : List V) (p : Int → Bool), exB l → CapOk caps → NoObj caps → (∀ t : Int, D g (I t :: caps) [] (B (p t)) []) →
  R [.sl 1 2 l.length (l.flatMap eExt), .fn g caps] [] (.sl 0 2 (kept p l).length ((kept p l).flatMap eExt)) []
abbrev KeepAllS (R : Rel) : Prop := ∀ t : Int, R [I t] [] (B true) []
abbrev KeepUnresS (R : Rel) : Prop := ∀ t : Int, R [I t] [] (B (!isReserved t)) []
theorem kept_true (l : List Ext) : kept (fun _ => true) l = l := by simp [kept]
abbrev cpExtsS (R : Rel) : Prop := ∀ l : List Ext, exB l → R [.sl 1 2 l.length (l.flatMap eExt)] [] (.sl 0 2 l.length (l.flatMap eExt)) []
def stripG (l : List Ext) : List Ext := kept (fun t => !isReserved t) l
def knownOf (l : List Ext) (tags : List Int) : List Ext := kept (fun t => decide (t ∈ tags)) l
abbrev StripGreaseS (R : Rel) : Prop := ∀ l : List Ext, exB l → R [.sl 1 2 l.length (l.flatMap eExt)] [] (.sl 0 2 (stripG l).length ((stripG l).flatMap eExt)) []
abbrev KnownOfS (R : Rel) : Prop := ∀ (l : List Ext) (tags : List Int), exB l → tags.length ≤ maxLen → R [.sl 1 2 l.length (l.flatMap eExt), .sl 1 1 tags.length (ints tags)] [] (.sl 0 2 (knownOf l tags).length ((knownOf l tags).flatMap eExt)) []
abbrev KnownOf1S (R : Rel) : Prop := ∀ (t : Int) (tags : List Int), tags.length ≤ maxLen → R [I t, .rptr 1 [.sl 0 1 tags.length (ints tags)] 0] [] (B (decide (t ∈ tags))) []
theorem capOk_ints {a : List Int} {r : List V} (h : CapOk r) : CapOk (.rptr 1 [.sl 0 1 a.length (ints a)] 0 :: r) := capOk_cons (fun H => by simp) (fun H => by simp) h
theorem known_self (l : List Ext) : knownOf l (tagsOf l) = l := by
  unfold knownOf kept
  rw [List.filter_eq_self]
  intro x hx
  simp only [decide_eq_true_eq]
  exact List.mem_map.2 ⟨x, hx, rfl⟩
theorem tags_len (l : List Ext) : (tagsOf l).length = l.length := by simp [tagsOf]
end Go.Eng.T

namespace Go.Eng.T
set_option maxRecDepth 20000
def hB (h : Hello) : Prop := h.versions.length ≤ 4194304 ∧ exB h.exts
def isHello (h : Hello) : Bool := areVers h.versions && areExts h.exts
abbrev IsHelloS (R : Rel) : Prop := ∀ h : Hello, hB h → R [arg (eHello h)] [] (B (isHello h)) []
abbrev cpHelloS (R : Rel) : Prop := ∀ h : Hello, hB h → R [arg (eHello h)] [] (.agg (eHello h)) []
def lossy (b : Box) (x : Ext) : Bool := decide (x.tag ∈ b.drops) || (b.lists && (!decide (x.tag ∈ b.strips) && !decide (InR x.tag 1 3)))
def topV (vs : List Int) : Int := vs.getLastD 0
def losesB (b : Box) (h : Hello) : Bool := (decide (0 < b.limit) && decide (b.limit < topV h.versions)) || h.exts.any (lossy b)
def stays (b : Box) (t : Int) : Bool := !decide (t ∈ b.strips)
def noHello : Hello := ⟨[], []⟩
def passBox (b : Box) (h : Hello) : Hello × Bool := if isBox b && (isHello h && !losesB b h) then (⟨h.versions, kept (stays b) h.exts⟩, true) else (noHello, false)
abbrev PassBoxS (R : Rel) : Prop := ∀ (b : Box) (h : Hello), lnBox b → hB h → R [arg (eBox b), arg (eHello h)] [] (.tup [.agg (eHello (passBox b h).1), B (passBox b h).2]) []
theorem vers_pos {xs : List Int} (h : areVers xs = true) : 0 < xs.length := by
  unfold areVers at h
  simp only [Bool.and_eq_true, decide_eq_true_eq] at h
  exact h.2
theorem topV_at {xs : List Int} (h : xs.length - 1 < xs.length) : topV xs = xs[xs.length - 1] := by
  unfold topV
  rw [List.getLastD_eq_getLast?, List.getLast?_eq_getElem?, List.getElem?_eq_getElem h]; rfl
abbrev PassBox1S (R : Rel) : Prop := ∀ (t : Int) (b : Box), lnBox b → R [I t, .rptr 1 (eBox b) 0] [] (B (stays b t)) []
abbrev loses1S (R : Rel) : Prop := ∀ (x : Ext) (b : Box), lnBox b → R [arg (eExt x), .rptr 1 (eBox b) 0] [] (B (lossy b x)) []
def maxL (xs : List Int) : Int := xs.foldl max (xs.headD 0)
abbrev MaxS (R : Rel) : Prop := ∀ xs : List Int, 0 < xs.length → xs.length ≤ 4194304 → R [.sl 1 1 xs.length (ints xs)] [] (I (maxL xs)) []
abbrev CloneS (R : Rel) : Prop := ∀ xs : List Int, xs.length ≤ 4194304 → R [.sl 1 1 xs.length (ints xs)] [] (.sl 0 1 xs.length (ints xs)) []
abbrev losesS (R : Rel) : Prop := ∀ (b : Box) (h : Hello), lnBox b → hB h → isBox b = true → areVers h.versions = true → R [arg (eBox b), arg (eHello h)] [] (B (losesB b h)) []
theorem foldmax_last : ∀ (xs : List Int) (a : Int), (∀ x, x ∈ xs → a ≤ x) → (∀ i, (h : i + 1 < xs.length) → xs[i] ≤ xs[i + 1]) → xs.foldl max a = (xs.getLast?.getD a)
  | [], a, _, _ => rfl
  | x :: r, a, h1, h2 => by
    have hx := h1 x (by simp)
    have hr : ∀ y, y ∈ r → x ≤ y := by
      intro y hy
      obtain ⟨n, hn, rfl⟩ := List.getElem_of_mem hy
      have key : ∀ m, (hm : m < r.length) → x ≤ r[m] := by
        intro m
        induction m with
        | zero => intro hm; have := h2 0 (by simp; omega); simpa using this
        | succ m ih =>
          intro hm
          have h3 := ih (by omega)
          have := h2 (m + 1) (by simp; omega)
          simp only [List.getElem_cons_succ] at this
          omega
      exact key n hn
    have ih := foldmax_last r x hr (fun i h => by have := h2 (i + 1) (by simp; omega); simpa using this)
    simp only [List.foldl_cons]
    rw [show max a x = x by omega, ih]
    cases r with
    | nil => rfl
    | cons y s => simp [List.getLast?_cons_cons, List.getLast?_cons]
theorem vers_up {xs : List Int} (h : areVers xs = true) {i : Nat} (hi : i + 1 < xs.length) : xs[i] < xs[i + 1] := by
  unfold areVers risesV at h
  simp only [Bool.and_eq_true, List.all_eq_true, List.mem_range] at h
  have := (h.1 (i + 1) hi).2
  rw [getDV hi, show i + 1 - 1 = i by omega, getDV (by omega)] at this
  simpa using this
theorem vers_at {xs : List Int} (h : areVers xs = true) {i : Nat} (hi : i < xs.length) : InV xs[i] 1 9 := by
  unfold areVers risesV at h
  simp only [Bool.and_eq_true, List.all_eq_true, List.mem_range] at h
  have := (h.1 i hi).1
  rw [getDV hi] at this
  simpa using this
theorem maxL_vers {xs : List Int} (h : areVers xs = true) : maxL xs = topV xs := by
  cases xs with
  | nil => rfl
  | cons x r =>
    unfold maxL topV
    simp only [List.headD_cons, List.foldl_cons]
    rw [show max x x = x by omega, foldmax_last r x ?_ ?_]
    · cases r with
      | nil => rfl
      | cons y s => simp [List.getLastD_eq_getLast?, List.getLast?_cons_cons, List.getLast?_cons]
    · intro y hy
      obtain ⟨n, hn, rfl⟩ := List.getElem_of_mem hy
      induction n with
      | zero => have := vers_up h (i := 0) (by simp; omega); simp at this; omega
      | succ m ih =>
        have h3 := ih (by omega) (List.getElem_mem _)
        have := vers_up h (i := m + 1) (by simp; omega)
        simp only [List.getElem_cons_succ] at this
        omega
    · intro i hi
      have := vers_up h (i := i + 1) (by simp; omega)
      simp only [List.getElem_cons_succ] at this
      omega
theorem capOk_box {b : Box} {r : List V} (h : CapOk r) : CapOk (.rptr 1 (eBox b) 0 :: r) := capOk_cons (fun H => by simp) (fun H => by simp) h
end Go.Eng.T

namespace Go.Eng.T
set_option maxRecDepth 20000
def passGo : List Box → Hello → Hello × Bool
  | [], h => (h, true)
  | b :: r, h => if (passBox b h).2 = true then passGo r (passBox b h).1 else (noHello, false)
theorem passGo_drop {path : List Box} {j : Nat} {x : Hello} (h : j < path.length) : passGo (path.drop j) x = if (passBox path[j] x).2 = true then passGo (path.drop (j + 1)) (passBox path[j] x).1 else (noHello, false) := by
  rw [List.drop_eq_getElem_cons h]; rfl
theorem passGo_end {path : List Box} {j : Nat} {x : Hello} (h : path.length ≤ j) : passGo (path.drop j) x = (x, true) := by rw [List.drop_eq_nil_of_le h]; rfl
def passPath (path : List Box) (h : Hello) : Hello × Bool := if decide (path.length ≤ 4) && isHello h then passGo path h else (noHello, false)
theorem hB_no : hB noHello := ⟨by simp [noHello], exB_nil⟩
theorem hB_pass {b : Box} {h : Hello} (hh : hB h) : hB (passBox b h).1 := by
  unfold passBox
  split
  · exact ⟨hh.1, exB_kept hh.2 _⟩
  · exact hB_no
theorem passBox_no {b : Box} {h : Hello} (hk : (passBox b h).2 = false) : (passBox b h).1 = noHello := by
  unfold passBox at *
  split at hk
  · cases hk
  · rename_i hc; rw [if_neg hc]
abbrev PassPathS (R : Rel) : Prop := ∀ (path : List Box) (h : Hello), lnS lnBox path → hB h → R [.sl 1 4 path.length (path.flatMap eBox), arg (eHello h)] [] (.tup [.agg (eHello (passPath path h).1), B (passPath path h).2]) []
def isClear (b : Box) : Bool := decide (b.limit = 0) && (decide (b.drops.length = 0) && (decide (b.strips.length = 0) && !b.lists))
abbrev IsClearS (R : Rel) : Prop := ∀ b : Box, lnBox b → R [arg (eBox b)] [] (B (isClear b)) []
theorem clear_box {b : Box} (h : isClear b = true) : isBox b = true := by
  unfold isClear at h
  simp only [Bool.and_eq_true, decide_eq_true_eq] at h
  obtain ⟨h1, h2, h3, _⟩ := h
  have h2' := List.eq_nil_of_length_eq_zero h2
  have h3' := List.eq_nil_of_length_eq_zero h3
  simp [isBox, h1, h2', h3', allIn]
def isClearPath (path : List Box) : Bool := decide (path.length ≤ 4) && path.all isClear
abbrev IsClearPathS (R : Rel) : Prop := ∀ path : List Box, lnS lnBox path → R [.sl 1 4 path.length (path.flatMap eBox)] [] (B (isClearPath path)) []
theorem all_here {α : Type} {p : α → Bool} {xs : List α} {j : Nat} (h : j < xs.length) (hp : p xs[j] = false) : xs.all p = false := List.all_eq_false.2 ⟨_, List.getElem_mem h, by simp [hp]⟩
theorem all_step {α : Type} {p : α → Bool} {xs : List α} {j : Nat} (h : j < xs.length) : (xs.take (j + 1)).all p = ((xs.take j).all p && p xs[j]) := by
  have e : xs.take (j + 1) = xs.take j ++ [xs[j]] := by simp
  rw [e, List.all_append]; simp
theorem all_all {α : Type} {p : α → Bool} {xs : List α} {j : Nat} (h : xs.length ≤ j) : (xs.take j).all p = xs.all p := by rw [List.take_of_length_le h]
abbrev IsClearPath1S (R : Rel) : Prop := ∀ b : Box, lnBox b → R [arg (eBox b)] [] (B (!isClear b)) []
abbrev PlainHelloS (R : Rel) : Prop := ∀ xs : List Int, xs.length ≤ 4194304 → R [.sl 1 1 xs.length (ints xs)] [] (.agg (eHello ⟨xs, []⟩)) []
def isOpen (path : List Box) (vs : List Int) : Bool := areVers vs && (passPath path ⟨vs.take 1, []⟩).2
abbrev IsOpenPathS (R : Rel) : Prop := ∀ (path : List Box) (vs : List Int), lnS lnBox path → vs.length ≤ 4194304 → R [.sl 1 4 path.length (path.flatMap eBox), .sl 1 1 vs.length (ints vs)] [] (B (isOpen path vs)) []
def lostV (path : List Box) (v : Int) : Bool := !(passPath path ⟨[v], []⟩).2
def lostVersions (path : List Box) (vs : List Int) : List Int := if areVers vs = true then vs.filter (lostV path) else []
abbrev LostVersionsS (R : Rel) : Prop := ∀ (path : List Box) (vs : List Int), lnS lnBox path → vs.length ≤ 4194304 → R [.sl 1 4 path.length (path.flatMap eBox), .sl 1 1 vs.length (ints vs)] [] (.sl 0 1 (lostVersions path vs).length (ints (lostVersions path vs))) []
theorem isOpen_one (path : List Box) (v : Int) : isOpen path [v] = !lostV path v := by
  unfold isOpen lostV
  by_cases h : areVers [v] = true
  · simp [h]
  · have : passPath path ⟨[v], []⟩ = (noHello, false) := by
      unfold passPath isHello
      have h' : areVers [v] = false := by simpa using h
      simp [h']
    simp [h, this]
end Go.Eng.T

namespace Go.Eng.T
set_option maxRecDepth 20000

/-- the places, from i on, at which p holds -/
def idxL {α : Type} (p : α → Bool) : List α → Nat → List Int
  | [], _ => []
  | x :: r, i => if p x then (i : Int) :: idxL p r (i + 1) else idxL p r (i + 1)
theorem idxL_append {α : Type} {p : α → Bool} (b : List α) : ∀ (a : List α) (i : Nat), idxL p (a ++ b) i = idxL p a i ++ idxL p b (i + a.length)
  | [], i => by simp [idxL]
  | x :: r, i => by
    have := idxL_append (p := p) b r (i + 1)
    simp only [List.cons_append, idxL, this, List.length_cons]
    rw [show i + 1 + r.length = i + (r.length + 1) by omega]
    by_cases h : p x = true <;> simp [h]
theorem idxL_step {α : Type} {p : α → Bool} {xs : List α} {j : Nat} (h : j < xs.length) : idxL p (xs.take (j + 1)) 0 = idxL p (xs.take j) 0 ++ (if p xs[j] then [(j : Int)] else []) := by
  have e : xs.take (j + 1) = xs.take j ++ [xs[j]] := by simp
  rw [e, idxL_append]
  have hl : (xs.take j).length = j := by simp; omega
  by_cases hp : p xs[j] = true <;> simp [idxL, hp, hl]
theorem idxL_all {α : Type} {p : α → Bool} {xs : List α} {j : Nat} (h : xs.length ≤ j) : idxL p (xs.take j) 0 = idxL p xs 0 := by rw [List.take_of_length_le h]
theorem idxL_len {α : Type} {p : α → Bool} : ∀ (xs : List α) (i : Nat), (idxL p xs i).length ≤ xs.length
  | [], _ => by simp [idxL]
  | x :: r, i => by
    have := idxL_len (p := p) r (i + 1)
    by_cases h : p x = true
    · simp [idxL, h]; omega
    · simp [idxL, h]; omega

def hasE (v : Int) (e : Endpoint) : Bool := decide (v ∈ e.versions)
theorem world_vers {w : World} (h : szWorld w ≤ 4194304) {j : Nat} (hj : j < w.ends.length) : w.ends[j].versions.length ≤ maxLen := by
  have := size_at (f := szEndpoint) hj
  have e : szEndpoint w.ends[j] = w.ends[j].versions.length + w.ends[j].tags.length + sumF szBox w.ends[j].path := rfl
  unfold szWorld at h
  unfold maxLen; omega
abbrev HasVersionS (R : Rel) : Prop := ∀ (w : World) (v : Int), szWorld w ≤ 4194304 → R [arg (eWorld w), I v] [] (.sl 0 1 (idxL (hasE v) w.ends 0).length (ints (idxL (hasE v) w.ends 0))) []
end Go.Eng.T

namespace Go.Eng.T
set_option maxRecDepth 20000
set_option maxHeartbeats 1000000

def rowsV (xs : List (List Int)) : List V := xs.map fun l => .sl 0 1 l.length (ints l)
@[simp high] theorem rowsV_len (xs : List (List Int)) : (rowsV xs).length = xs.length := by simp [rowsV]
@[simp] theorem rowsV_nil : rowsV [] = [] := rfl
@[simp] theorem rowsV_ro (xs : List (List Int)) : (rowsV xs).map (roCell 0) = rowsV xs := by simp [rowsV, Function.comp_def, roCell]
@[simp high] theorem rowsV_at {xs : List (List Int)} {j : Nat} (h : j < xs.length) : (rowsV xs)[j]? = some (V.sl 0 1 xs[j].length (ints xs[j])) := by simp [rowsV, h]
theorem rowsV_push (xs : List (List Int)) (l : List Int) {n : Nat} (h : n = l.length) : rowsV xs ++ [.sl 0 1 n (ints l)] = rowsV (xs ++ [l]) := by subst h; simp [rowsV]
def szRows (xs : List (List Int)) : Nat := sumF List.length xs
theorem rows_at {xs : List (List Int)} {j : Nat} (h : j < xs.length) : xs[j].length ≤ szRows xs := size_at (f := List.length) h
theorem rows_len {xs : List (List Int)} : xs.length ≤ szRows xs := size_len

def listsOf (w : World) : List (List Int) := w.ends.map (·.versions)
abbrev ListsOfS (R : Rel) : Prop := ∀ w : World, szWorld w ≤ 4194304 → R [arg (eWorld w)] [] (.sl 0 1 (listsOf w).length (rowsV (listsOf w))) []
theorem lists_step {xs : List Endpoint} {j : Nat} (h : j < xs.length) : rowsV ((xs.map (·.versions)).take j) ++ [.sl 0 1 xs[j].versions.length (ints xs[j].versions)] = rowsV ((xs.map (·.versions)).take (j + 1)) := by
  have h' : j < (xs.map (·.versions)).length := by simpa using h
  have e : (xs.map (·.versions)).take (j + 1) = (xs.map (·.versions)).take j ++ [xs[j].versions] := by
    have := List.take_append_getElem h'
    rw [← this]; simp
  rw [e, rowsV_push _ _ rfl]
abbrev rowsA (ls : List (List Int)) : V := .sl 1 1 ls.length (rowsV ls)
def useB (s : List Int) (v : Int) (l : List Int) : Bool := decide (bestCommon s l = v)
def useOf (s : List Int) (ls : List (List Int)) (v : Int) : Nat := if 1 ≤ v then cntF (useB s v) ls else 0
abbrev UseOfS (R : Rel) : Prop := ∀ (s : List Int) (ls : List (List Int)) (v : Int), s.length ≤ 4194304 → szRows ls ≤ 4194304 → R [.sl 1 1 s.length (ints s), rowsA ls, I v] [] (I (useOf s ls v)) []
def strB (s : List Int) (v : Int) (l : List Int) : Bool := decide (0 < bestCommon s l) && decide (bestCommon (withoutV s v) l = 0)
def stranded (s : List Int) (ls : List (List Int)) (v : Int) : List Int := idxL (strB s v) ls 0
abbrev StrandedS (R : Rel) : Prop := ∀ (s : List Int) (ls : List (List Int)) (v : Int), s.length ≤ 4194304 → szRows ls ≤ 4194304 → R [.sl 1 1 s.length (ints s), rowsA ls, I v] [] (.sl 0 1 (stranded s ls v).length (ints (stranded s ls v))) []
theorem useOf_le (s : List Int) (ls : List (List Int)) (v : Int) : useOf s ls v ≤ ls.length := by
  unfold useOf
  split
  · have := cnt_le (f := useB s v) (xs := ls) (j := ls.length) (by omega)
    rwa [List.take_length] at this
  · omega
def mayRetire (s : List Int) (ls : List (List Int)) (v pm : Int) : Bool := areVers s && (decide (v ∈ s) && (!decide (s.length = 1) && (decide (InV pm 0 1000) && (decide (stranded s ls v = []) && decide (1000 * (useOf s ls v : Int) ≤ pm * (ls.length : Int))))))
abbrev MayRetireS (R : Rel) : Prop := ∀ (s : List Int) (ls : List (List Int)) (v pm : Int), s.length ≤ 4194304 → szRows ls ≤ 4194304 → R [.sl 1 1 s.length (ints s), rowsA ls, I v, I pm] [] (B (mayRetire s ls v pm)) []
def retire (s : List Int) (ls : List (List Int)) (v pm : Int) : List Int × Bool := if mayRetire s ls v pm = true then (withoutV s v, true) else (s, false)
abbrev RetireVersionS (R : Rel) : Prop := ∀ (s : List Int) (ls : List (List Int)) (v pm : Int), s.length ≤ 4194304 → szRows ls ≤ 4194304 → R [.sl 1 1 s.length (ints s), rowsA ls, I v, I pm] [] (.tup [.sl 0 1 (retire s ls v pm).1.length (ints (retire s ls v pm).1), B (retire s ls v pm).2]) []
theorem world_serv' {w : World} (h : szWorld w ≤ 4194304) : w.server.length ≤ 4194304 := by unfold szWorld at h; omega
theorem listsF (xs : List Endpoint) : szRows (xs.map (·.versions)) ≤ sumF szEndpoint xs := by
  induction xs with
  | nil => simp [szRows, sumF]
  | cons x r ih =>
    simp only [szRows, sumF, List.map_cons, List.sum_cons, List.length_cons, szEndpoint, List.length_map] at *
    omega
theorem lists_sz {w : World} (h : szWorld w ≤ 4194304) : szRows (listsOf w) ≤ 4194304 := by
  have := listsF w.ends
  unfold szWorld at h
  unfold listsOf
  omega
def stepRetire (w : World) (v pm : Int) : World × Bool := if (retire w.server (listsOf w) v pm).2 = true ∧ ¬ v = w.rollout.version then ({ w with server := (retire w.server (listsOf w) v pm).1 }, true) else (w, false)
abbrev StepRetireS (R : Rel) : Prop := ∀ (w : World) (v pm : Int), szWorld w ≤ 4194304 → R [arg (eWorld w), I v, I pm] [] (.tup [.agg (eWorld (stepRetire w v pm).1), B (stepRetire w v pm).2]) []
end Go.Eng.T

namespace Go.Eng.T
set_option maxRecDepth 20000
set_option maxHeartbeats 1000000
def leftOf (a b : List Int) : List Int := a.filter fun v => !decide (v ∈ b)
abbrev LeftS (R : Rel) : Prop := ∀ a b : List Int, a.length ≤ 4194304 → b.length ≤ 4194304 → R [.sl 1 1 a.length (ints a), .sl 1 1 b.length (ints b)] [] (.sl 0 1 (leftOf a b).length (ints (leftOf a b))) []
/-- numbers that rise -/
def upTo (xs : List Int) (i : Nat) : Bool := decide (i = 0) || decide (xs.getD (i - 1) 0 < xs.getD i 0)
def areTags (xs : List Int) : Bool := allTo (upTo xs) xs.length && allIn xs 0 255
abbrev AreTagsS (R : Rel) : Prop := ∀ xs : List Int, xs.length ≤ maxLen → R [.sl 1 1 xs.length (ints xs)] [] (B (areTags xs)) []
theorem areTags_no1 {xs : List Int} {j : Nat} (h : j < xs.length) (hn : ¬ InR xs[j] 0 255) : areTags xs = false := by unfold areTags; rw [allIn_no h hn]; simp
theorem areTags_no2 {xs : List Int} {j : Nat} (h : j < xs.length) (hn : upTo xs j = false) : areTags xs = false := by unfold areTags; rw [allTo_no h hn]; simp
theorem upTo_zero (xs : List Int) : upTo xs 0 = true := by simp [upTo]
theorem upTo_at {xs : List Int} {j : Nat} (h0 : ¬ j = 0) (h : j < xs.length) (h' : j - 1 < xs.length) : upTo xs j = decide (xs[j - 1] < xs[j]) := by
  unfold upTo
  rw [getDV h, getDV h']
  simp [h0]
def isEndpoint (e : Endpoint) : Bool := areVers e.versions && (decide (e.tags.length ≤ 5) && (areTags e.tags && (!e.tags.any isReserved && (decide (e.path.length ≤ 4) && (e.path.all isBox && decide (InR e.cls 0 5))))))
abbrev IsEndpointS (R : Rel) : Prop := ∀ e : Endpoint, lnEndpoint e → R [arg (eEndpoint e)] [] (B (isEndpoint e)) []
abbrev IsEndpoint1S (R : Rel) : Prop := ∀ b : Box, lnBox b → R [arg (eBox b)] [] (B (!isBox b)) []
theorem any_not {α : Type} (p : α → Bool) (xs : List α) : (xs.any fun x => !p x) = !xs.all p := by rw [List.all_eq_not_any_not]; simp
theorem ln_box {b : Box} (h : szBox b ≤ 4194304) : lnBox b := by
  unfold szBox at h
  exact ⟨by unfold lnInts maxLen; omega, by unfold lnInts maxLen; omega⟩
theorem ln_path {p : List Box} (h : sumF szBox p ≤ 4194304) : lnS lnBox p :=
  ⟨by have := size_len (f := szBox) (xs := p); unfold maxLen; omega, fun j hj => ln_box (by have := size_at (f := szBox) hj; omega)⟩
theorem ln_end {e : Endpoint} (h : szEndpoint e ≤ 4194304) : lnEndpoint e := by
  unfold szEndpoint at h
  exact ⟨by unfold lnInts maxLen; omega, by unfold lnInts maxLen; omega, ln_path (by omega)⟩
theorem world_end {w : World} (h : szWorld w ≤ 4194304) {n : Nat} (hn : n < w.ends.length) : szEndpoint w.ends[n] ≤ 4194304 := by
  have := size_at (f := szEndpoint) hn
  have := (world_szs h).2.2.1
  omega
theorem endp_vers {e : Endpoint} (h : szEndpoint e ≤ 4194304) : e.versions.length ≤ 4194304 := by unfold szEndpoint at h; omega
def bestFor (e : Endpoint) (s : List Int) : Int := if isEndpoint e = true then bestCommon s (leftOf e.versions (lostVersions e.path e.versions)) else 0
abbrev BestForS (R : Rel) : Prop := ∀ (e : Endpoint) (s : List Int), szEndpoint e ≤ 4194304 → s.length ≤ 4194304 → R [arg (eEndpoint e), .sl 1 1 s.length (ints s)] [] (I (bestFor e s)) []
theorem lost_len (path : List Box) (vs : List Int) : (lostVersions path vs).length ≤ vs.length := by
  unfold lostVersions
  split
  · exact List.length_filter_le _ _
  · simp
theorem left_len (a b : List Int) : (leftOf a b).length ≤ a.length := List.length_filter_le _ _
def bestNow (w : World) (i : Int) : Int := if InQ i 0 ((w.ends.length : Int) - 1) then (match w.ends[i.toNat]? with | some e => bestFor e w.server | none => 0) else 0
abbrev BestNowS (R : Rel) : Prop := ∀ (w : World) (i : Int), szWorld w ≤ 4194304 → R [arg (eWorld w), I i] [] (I (bestNow w i)) []
end Go.Eng.T

namespace Go.Eng.T
set_option maxRecDepth 20000
set_option maxHeartbeats 1000000
/-- how many stand before the first that is not less -/
def posV : List Int → Int → Nat
  | [], _ => 0
  | x :: r, v => if x < v then posV r v + 1 else 0
theorem posV_le : ∀ (l : List Int) (v : Int), posV l v ≤ l.length
  | [], _ => Nat.le_refl 0
  | x :: r, v => by
    have := posV_le r v
    simp only [posV, List.length_cons]
    split <;> omega
theorem posV_step {l : List Int} {v : Int} {j : Nat} (h : j < l.length) (hv : l[j] < v) : posV (l.drop j) v = posV (l.drop (j + 1)) v + 1 := by
  rw [List.drop_eq_getElem_cons h]
  simp only [posV, if_pos hv]
theorem posV_stop {l : List Int} {v : Int} {j : Nat} (h : j < l.length) (hv : ¬ l[j] < v) : posV (l.drop j) v = 0 := by
  rw [List.drop_eq_getElem_cons h]
  simp only [posV, if_neg hv]
theorem posV_end {l : List Int} {v : Int} {j : Nat} (h : l.length ≤ j) : posV (l.drop j) v = 0 := by rw [List.drop_eq_nil_of_le h]; rfl
def insV (l : List Int) (i : Nat) (v : Int) : List Int := l.take i ++ v :: l.drop i
theorem insV_len {l : List Int} {i : Nat} {v : Int} (h : i ≤ l.length) : (insV l i v).length = l.length + 1 := by simp [insV]; omega
def putV (l : List Int) (v : Int) : List Int := if l[posV l v]? = some v then l else insV l (posV l v) v
theorem putV_len (l : List Int) (v : Int) : (putV l v).length ≤ l.length + 1 := by
  unfold putV
  split
  · omega
  · rw [insV_len (posV_le l v)]; omega
abbrev l4PutS (R : Rel) : Prop := ∀ (l : List Int) (v : Int), l.length ≤ 4194304 → R [.sl 1 1 l.length (ints l), I v] [] (.sl 0 1 (putV l v).length (ints (putV l v))) []
abbrev withVersionS (R : Rel) : Prop := ∀ (l : List Int) (v : Int), l.length ≤ 4194304 → R [.arr 0, I v] [.arr 1 0 l.length (ints l)] (.sl 0 1 (putV l v).length (ints (putV l v))) [.dead]
abbrev InsertS (R : Rel) : Prop := ∀ (l : List Int) (i : Nat) (v : Int), l.length ≤ 4194304 → i ≤ l.length → R [.arr 0, I i, .arr 1] [.arr 1 0 l.length (ints l), .arr 1 0 1 (ints [v])] (.sl 0 1 (insV l i v).length (ints (insV l i v))) [.dead, .dead]
theorem l4Put_b (D : Dn) : l4PutS (Body D sspec_l4Put) := by
  intro l v hl
  simp -implicitDefEqProofs
  refine swp_loop (fun k s => ∃ j, j + k = l.length ∧ posV l v = j + posV (l.drop j) v ∧ s = ⟨[.sl 1 1 l.length (ints l), I v, .undef, I j, .undef, .undef], [.free, .free, .free, .free, .free, .free, .free]⟩) ?_ (l.length) _ ⟨0, by simp, by simp, by simp⟩
  intro k s ⟨j, hj, hp, hs⟩
  subst hs
  by_cases hjn : j < l.length
  · have hw : IntKind.i64.wrap ((j : Int) + 1) = (j + 1 : Nat) := by rw [wrap_id (by omega) (by omega)]; simp
    by_cases hv : l[j] < v
    · have hst := posV_step hjn hv
      simp -implicitDefEqProofs [hjn, hv]
      exact ⟨k - 1, by omega, j + 1, by omega, by omega, by simp [hw]⟩
    · have hst := posV_stop hjn hv
      have hpe : posV l v = j := by omega
      have b1 : l.length * 8 ≤ 1099511627776 := by omega
      have b2 : j * 8 ≤ 1099511627776 := by omega
      have b3 : (j + 1) * 8 ≤ 1099511627776 := by omega
      have b4 : (j + 1 + (l.length - j)) * 8 ≤ 1099511627776 := by omega
      have hjl : j ≤ l.length := by omega
      have hjl' : (j : Int) ≤ l.length := by omega
      have hmin : min j l.length = j := by omega
      have htk : List.take (l.length - j) (List.drop j l) = List.drop j l := List.take_of_length_le (by simp)
      by_cases he : l[j] = v
      · have e : putV l v = l := by unfold putV; rw [hpe, List.getElem?_eq_getElem hjn, he, if_pos rfl]
        rw [e]
        simp -implicitDefEqProofs [hjn, hv, he, b1]
      · have e : putV l v = l.take j ++ v :: l.drop j := by unfold putV insV; rw [hpe, List.getElem?_eq_getElem hjn, if_neg (by simpa using he)]
        have el : (putV l v).length = j + 1 + (l.length - j) := by rw [e]; simp; omega
        simp -implicitDefEqProofs [hjn, hv, he, hjl, hjl', hmin, b2, b3, b4]
        rw [el, e]
        simp [htk, ints_app]
  · have hst := posV_end (v := v) (l := l) (j := j) (by omega)
    have hpe : posV l v = j := by omega
    have b1 : l.length * 8 ≤ 1099511627776 := by omega
    have b2 : j * 8 ≤ 1099511627776 := by omega
    have b3 : (j + 1) * 8 ≤ 1099511627776 := by omega
    have b4 : (j + 1 + (l.length - j)) * 8 ≤ 1099511627776 := by omega
    have hjl : j ≤ l.length := by omega
    have hjl' : (j : Int) ≤ l.length := by omega
    have hmin : min j l.length = j := by omega
    have htk : List.take (l.length - j) (List.drop j l) = List.drop j l := List.take_of_length_le (by simp)
    have e : putV l v = l.take j ++ v :: l.drop j := by unfold putV insV; rw [hpe, List.getElem?_eq_none (by omega), if_neg (by simp)]
    have el : (putV l v).length = j + 1 + (l.length - j) := by rw [e]; simp; omega
    simp -implicitDefEqProofs [hjn, hjl, hjl', hmin, b2, b3, b4]
    rw [el, e]
    simp [htk, ints_app]
theorem withVersion_b (D : Dn) (hI : InsertS (D gslices_Insert___int_int_)) : withVersionS (Body D simplV_withVersion) := by
  intro l v hl
  simp -implicitDefEqProofs
  refine swp_loop (fun k s => ∃ j, j + k = l.length ∧ posV l v = j + posV (l.drop j) v ∧ s = ⟨[.arr 0, I v, .undef, I j, .undef, .undef], [.arr 1 0 l.length (ints l), .free, .free]⟩) ?_ (l.length) _ ⟨0, by simp, by simp, by simp⟩
  intro k s ⟨j, hj, hp, hs⟩
  subst hs
  by_cases hjn : j < l.length
  · have hw : IntKind.i64.wrap ((j : Int) + 1) = (j + 1 : Nat) := by rw [wrap_id (by omega) (by omega)]; simp
    by_cases hv : l[j] < v
    · have hst := posV_step hjn hv
      simp -implicitDefEqProofs [hjn, hv]
      exact ⟨k - 1, by omega, j + 1, by omega, by omega, by simp [hw]⟩
    · have hst := posV_stop hjn hv
      have hpe : posV l v = j := by omega
      have b1 : l.length * 8 ≤ 1099511627776 := by omega
      have b2 : j * 8 ≤ 1099511627776 := by omega
      have b3 : (j + 1) * 8 ≤ 1099511627776 := by omega
      have b4 : (j + 1 + (l.length - j)) * 8 ≤ 1099511627776 := by omega
      have hjl : j ≤ l.length := by omega
      have hjl' : (j : Int) ≤ l.length := by omega
      have hmin : min j l.length = j := by omega
      have htk : List.take (l.length - j) (List.drop j l) = List.drop j l := List.take_of_length_le (by simp)
      by_cases he : l[j] = v
      · have e : putV l v = l := by unfold putV; rw [hpe, List.getElem?_eq_getElem hjn, he, if_pos rfl]
        rw [e]
        simp -implicitDefEqProofs [hjn, hv, he, b1]
      · have e : putV l v = insV l j v := by unfold putV; rw [hpe, List.getElem?_eq_getElem hjn, if_neg (by simpa using he)]
        rw [e]
        simp -implicitDefEqProofs [hjn, hv, he]
        refine callQ_of (hI l j v hl hjl) ?_
        simp -implicitDefEqProofs [outO]
  · have hst := posV_end (v := v) (l := l) (j := j) (by omega)
    have hpe : posV l v = j := by omega
    have b1 : l.length * 8 ≤ 1099511627776 := by omega
    have b2 : j * 8 ≤ 1099511627776 := by omega
    have b3 : (j + 1) * 8 ≤ 1099511627776 := by omega
    have b4 : (j + 1 + (l.length - j)) * 8 ≤ 1099511627776 := by omega
    have hjl : j ≤ l.length := by omega
    have hjl' : (j : Int) ≤ l.length := by omega
    have hmin : min j l.length = j := by omega
    have htk : List.take (l.length - j) (List.drop j l) = List.drop j l := List.take_of_length_le (by simp)
    have e : putV l v = insV l j v := by unfold putV; rw [hpe, List.getElem?_eq_none (by omega), if_neg (by simp)]
    rw [e]
    simp -implicitDefEqProofs [hjn]
    refine callQ_of (hI l j v hl hjl) ?_
    simp -implicitDefEqProofs [outO]
end Go.Eng.T

namespace Go.Eng.T
theorem sumF_map_le {α : Type} {f : α → Nat} {g : α → α} (h : ∀ x, f (g x) ≤ f x) (xs : List α) : sumF f (xs.map g) ≤ sumF f xs := by
  induction xs with
  | nil => simp [sumF]
  | cons x r ih =>
    have := h x
    simp only [sumF, List.map_cons, List.length_cons, List.sum_cons] at *
    omega
theorem leaveEnd_sz (w : World) (x : Endpoint) : szEndpoint (leaveEnd w x) ≤ szEndpoint x := by
  unfold leaveEnd
  split
  · have := wv_len x.versions w.rollout.version
    simp only [szEndpoint]
    omega
  · exact Nat.le_refl _
theorem leave_sz (w : World) : szWorld (leave w) ≤ szWorld w := by
  have := sumF_map_le (f := szEndpoint) (leaveEnd_sz w) w.ends
  have h0 : sumF szDialed ([] : List Dialed) = 0 := rfl
  simp only [szWorld, leave, h0]
  omega
end Go.Eng.T

namespace Go.Eng.T
set_option maxRecDepth 20000
set_option maxHeartbeats 2000000
/-- a row under way, each place with its number -/
def mapIJ {α : Type} (f : Nat → α → α) (xs : List α) (j : Nat) : List α := xs.mapIdx fun i x => if i < j then f i x else x
section
variable {α : Type} {f : Nat → α → α} {xs : List α} {j : Nat}
@[simp] theorem mapIJ_len : (mapIJ f xs j).length = xs.length := by simp [mapIJ]
theorem mapIJ_zero : mapIJ f xs 0 = xs := by
  apply List.ext_getElem
  · simp
  · intro n h1 h2; simp [mapIJ]
theorem mapIJ_all (h : xs.length ≤ j) : mapIJ f xs j = xs.mapIdx f := by
  apply List.ext_getElem
  · simp
  · intro n h1 h2
    simp only [mapIJ_len] at h1
    simp only [mapIJ, List.getElem_mapIdx]
    rw [if_pos (by omega)]
theorem mapIJ_get (h : j < xs.length) : (mapIJ f xs j)[j]'(by rw [mapIJ_len]; exact h) = xs[j] := by simp [mapIJ]
theorem mapIJ_set (h : j < xs.length) : (mapIJ f xs j).set j (f j xs[j]) = mapIJ f xs (j + 1) := by
  apply List.ext_getElem
  · simp
  · intro n h1 h2
    simp only [List.length_set, mapIJ_len] at h1
    rw [List.getElem_set]
    simp only [mapIJ, List.getElem_mapIdx]
    by_cases hn : j = n
    · subst hn; simp
    · rw [if_neg hn]
      by_cases hl : n < j
      · rw [if_pos hl, if_pos (by omega)]
      · rw [if_neg hl, if_neg (by omega)]
theorem mapIJ_same (h : j < xs.length) (hf : f j xs[j] = xs[j]) : mapIJ f xs (j + 1) = mapIJ f xs j := by
  rw [← mapIJ_set h, hf]
  have := mapIJ_get (f := f) h
  conv => lhs; rw [← this]
  simp
end
def enterEnd (w : World) (i : Nat) (e : Endpoint) : Endpoint := if isIn w.rollout i w.ends.length = true then ⟨putV e.versions w.rollout.version, e.tags, e.path, e.cls⟩ else e
def canEnter (w : World) : Bool := isRollout w.rollout && !w.rollout.off
def enter (w : World) : World := if canEnter w = true then { w with ends := w.ends.mapIdx (enterEnd w), stage := [], reached := max w.reached (w.rollout.pos + 1) } else w
abbrev EnterStageS (R : Rel) : Prop := ∀ w : World, szWorld w ≤ 4194304 → R [arg (eWorld w)] [] (.agg (eWorld (enter w))) []
abbrev MaxIS (R : Rel) : Prop := ∀ a b : Int, R [I a, I b] [] (I (max a b)) []
abbrev MinIS (R : Rel) : Prop := ∀ a b : Int, R [I a, I b] [] (I (min a b)) []
theorem max_ite {a b : Int} : max a b = if a < b then b else a := by omega
theorem sMax_b (D : Dn) : MaxIS (Body D sspec_Max) := by
  intro a b
  by_cases h : a < b
  · have e : max a b = b := by omega
    simp -implicitDefEqProofs [h, e]
  · have e : max a b = a := by omega
    simp -implicitDefEqProofs [h, e]
theorem sEnterStage_b (D : Dn) (hC : cpWorldS (D gspec_l32Copy)) (hR : IsRolloutS (D gspec_IsRollout)) (hI : IsInS (D gspec_IsIn)) (hP : l4PutS (D gspec_l4Put)) (hM : MaxIS (D gspec_Max)) : EnterStageS (Body D sspec_EnterStage) := by
  intro w h
  have hl := world_ends h
  have hr := world_roll h
  simp -implicitDefEqProofs
  refine callQ_of (hC w h) ?_
  simp -implicitDefEqProofs
  refine callQ_of (hR w.rollout hr) ?_
  by_cases h1 : isRollout w.rollout = true
  rotate_left
  · have e : enter w = w := by unfold enter canEnter; rw [if_neg (by simp [h1])]
    simp -implicitDefEqProofs [h1, e]
  by_cases h2 : w.rollout.off = true
  · have e : enter w = w := by unfold enter canEnter; rw [if_neg (by simp [h2])]
    simp -implicitDefEqProofs [h1, h2, e]
  have h2' : w.rollout.off = false := by simpa using h2
  have e : enter w = { w with ends := w.ends.mapIdx (enterEnd w), stage := [], reached := max w.reached (w.rollout.pos + 1) } := by unfold enter canEnter; rw [if_pos (by simp [h1, h2'])]
  have hp := roll_pos h1
  have hwp : IntKind.i64.wrap (w.rollout.pos + 1) = w.rollout.pos + 1 := wrap_id (by omega) (by omega)
  simp -implicitDefEqProofs [h1, h2]
  refine swp_loop (fun k s => ∃ j o9, j + k = w.ends.length ∧ s = ⟨[.undef, .ptr 0 0, .ptr 1 0, .ptr 8 0, I j, .undef, .undef, .undef], [.var ((eWorld w).map (roCell 1)), .var [.nil 1, .nil 1, .sc (.int .i64 0), .nil 4, .sc (.int .i64 0), .nil 1, .sc (.int .i64 0), .sc (.bool false), .sc (.int .i64 0), .sc (.int .i64 0), .nil 5, .nil 8, .sc (.int .i64 0), .sc (.int .i64 0), .sc (.int .i64 0)], .arr 1 0 w.server.length (ints w.server), .arr 1 0 w.tags.length (ints w.tags), .arr 4 0 w.ends.length ((mapIJ (enterEnd w) w.ends j).flatMap eEndpoint), .arr 1 0 w.rollout.stages.length (ints w.rollout.stages), .arr 5 0 w.stage.length (w.stage.flatMap eDialed), .arr 8 0 w.log.length (w.log.flatMap eLogged), .var [.arr 2, .arr 3, .sc (.int .i64 w.key), .arr 4, .sc (.int .i64 w.rollout.version), .arr 5, .sc (.int .i64 w.rollout.pos), .sc (.bool w.rollout.off), .sc (.int .i64 w.least), .sc (.int .i64 w.percent), .arr 6, .arr 7, .sc (.int .i64 w.now), .sc (.int .i64 w.hurt), .sc (.int .i64 w.reached)], o9, .free]⟩) ?_ (w.ends.length) _ ⟨0, .free, by simp, by simp [mapIJ_zero, h2']⟩
  intro k s ⟨j, o9, hj, hs⟩
  subst hs
  by_cases hjn : j < w.ends.length
  · have hw : IntKind.i64.wrap ((j : Int) + 1) = (j + 1 : Nat) := by rw [wrap_id (by omega) (by omega)]; simp
    have hset := mapIJ_set (f := enterEnd w) hjn
    have hg := mapIJ_get (f := enterEnd w) hjn
    have hvl := end_vers h hjn
    have hf : j * 4 < w.ends.length * 4 := by omega
    simp -implicitDefEqProofs [hjn]
    refine callQ_of (hI w.rollout j w.ends.length hr) ?_
    by_cases h3 : isIn w.rollout j w.ends.length = true
    · have e3 : enterEnd w j w.ends[j] = ⟨putV w.ends[j].versions w.rollout.version, w.ends[j].tags, w.ends[j].path, w.ends[j].cls⟩ := by unfold enterEnd; rw [if_pos h3]
      rw [e3] at hset
      simp -implicitDefEqProofs [h3, hjn, hg, hf]
      refine callQ_of (hP w.ends[j].versions _ hvl) ?_
      simp -implicitDefEqProofs [hjn, hg, hf]
      exact ⟨k - 1, by omega, j + 1, by omega, by simp [hw], by rw [← hset]⟩
    · have e3 : enterEnd w j w.ends[j] = w.ends[j] := by unfold enterEnd; rw [if_neg h3]
      have hsame := mapIJ_same hjn e3
      simp -implicitDefEqProofs [h3]
      exact ⟨k - 1, by omega, j + 1, by omega, by simp [hw], by rw [hsame]⟩
  · have hx := mapIJ_all (f := enterEnd w) (xs := w.ends) (j := j) (by omega)
    simp -implicitDefEqProofs [hjn, hwp, hx]
    refine callQ_of (hM _ _) ?_
    simp -implicitDefEqProofs [e, h2']
theorem iEnterStage_b (D : Dn) (hC : cpWorldS (D gimpl_copyWorld)) (hR : IsRolloutS (D gimpl_IsRollout)) (hI : IsInS (D gimpl_IsIn)) (hP : withVersionS (D gimpl_withVersion)) : EnterStageS (Body D simplV_EnterStage) := by
  intro w h
  have hl := world_ends h
  have hr := world_roll h
  simp -implicitDefEqProofs
  refine callQ_of (hC w h) ?_
  simp -implicitDefEqProofs
  refine callQ_of (hR w.rollout hr) ?_
  by_cases h1 : isRollout w.rollout = true
  rotate_left
  · have e : enter w = w := by unfold enter canEnter; rw [if_neg (by simp [h1])]
    simp -implicitDefEqProofs [h1, e]
  by_cases h2 : w.rollout.off = true
  · have e : enter w = w := by unfold enter canEnter; rw [if_neg (by simp [h2])]
    simp -implicitDefEqProofs [h1, h2, e]
  have h2' : w.rollout.off = false := by simpa using h2
  have e : enter w = { w with ends := w.ends.mapIdx (enterEnd w), stage := [], reached := max w.reached (w.rollout.pos + 1) } := by unfold enter canEnter; rw [if_pos (by simp [h1, h2'])]
  have hp := roll_pos h1
  have hwp : IntKind.i64.wrap (w.rollout.pos + 1) = w.rollout.pos + 1 := wrap_id (by omega) (by omega)
  simp -implicitDefEqProofs [h1, h2]
  refine swp_loop (fun k s => ∃ j v5 o10 o11, j + k = w.ends.length ∧ s = ⟨[.undef, .ptr 0 0, .ptr 1 0, .ptr 8 0, .ptr 9 0, v5, .undef, I w.ends.length, I j, .undef, .undef], [.var ((eWorld w).map (roCell 1)), .var [.nil 1, .nil 1, .sc (.int .i64 0), .nil 4, .sc (.int .i64 0), .nil 1, .sc (.int .i64 0), .sc (.bool false), .sc (.int .i64 0), .sc (.int .i64 0), .nil 5, .nil 8, .sc (.int .i64 0), .sc (.int .i64 0), .sc (.int .i64 0)], .arr 1 0 w.server.length (ints w.server), .arr 1 0 w.tags.length (ints w.tags), .arr 4 0 w.ends.length ((mapIJ (enterEnd w) w.ends j).flatMap eEndpoint), .arr 1 0 w.rollout.stages.length (ints w.rollout.stages), .arr 5 0 w.stage.length (w.stage.flatMap eDialed), .arr 8 0 w.log.length (w.log.flatMap eLogged), .var [.arr 2, .arr 3, .sc (.int .i64 w.key), .arr 4, .sc (.int .i64 w.rollout.version), .arr 5, .sc (.int .i64 w.rollout.pos), .sc (.bool w.rollout.off), .sc (.int .i64 w.least), .sc (.int .i64 w.percent), .arr 6, .arr 7, .sc (.int .i64 w.now), .sc (.int .i64 w.hurt), .sc (.int .i64 w.reached)], .var [.sc (.int .i64 w.rollout.version), .sl 1 1 w.rollout.stages.length (ints w.rollout.stages), .sc (.int .i64 w.rollout.pos), .sc (.bool w.rollout.off)], o10, o11]⟩) ?_ (w.ends.length) _ ⟨0, .undef, .free, .free, by simp, by simp [mapIJ_zero, h2']⟩
  intro k s ⟨j, v5, o10, o11, hj, hs⟩
  subst hs
  by_cases hjn : j < w.ends.length
  · have hw : IntKind.i64.wrap ((j : Int) + 1) = (j + 1 : Nat) := by rw [wrap_id (by omega) (by omega)]; simp
    have hset := mapIJ_set (f := enterEnd w) hjn
    have hg := mapIJ_get (f := enterEnd w) hjn
    have hvl := end_vers h hjn
    have hf : j * 4 < w.ends.length * 4 := by omega
    simp -implicitDefEqProofs [hjn]
    refine ⟨by cases o11 <;> rfl, ?_⟩
    refine callQ_of (hI w.rollout j w.ends.length hr) ?_
    by_cases h3 : isIn w.rollout j w.ends.length = true
    · have e3 : enterEnd w j w.ends[j] = ⟨putV w.ends[j].versions w.rollout.version, w.ends[j].tags, w.ends[j].path, w.ends[j].cls⟩ := by unfold enterEnd; rw [if_pos h3]
      rw [e3] at hset
      simp -implicitDefEqProofs [h3, hjn, hg, hf]
      refine callQ_of (hP w.ends[j].versions _ hvl) ?_
      simp -implicitDefEqProofs [hjn, hg, hf]
      exact ⟨k - 1, by omega, j + 1, by omega, by simp [hw], by rw [← hset]⟩
    · have e3 : enterEnd w j w.ends[j] = w.ends[j] := by unfold enterEnd; rw [if_neg h3]
      have hsame := mapIJ_same hjn e3
      simp -implicitDefEqProofs [h3]
      exact ⟨k - 1, by omega, j + 1, by omega, by simp [hw], by rw [hsame]⟩
  · have hx := mapIJ_all (f := enterEnd w) (xs := w.ends) (j := j) (by omega)
    by_cases hmx : w.reached < w.rollout.pos + 1
    · have em : max w.reached (w.rollout.pos + 1) = w.rollout.pos + 1 := by omega
      simp -implicitDefEqProofs [hjn, hwp, hx, e, h2', hmx, em]
    · have em : max w.reached (w.rollout.pos + 1) = w.reached := by omega
      simp -implicitDefEqProofs [hjn, hwp, hx, e, h2', hmx, em]
def stepStart (w : World) : World × Bool := if decide (w.reached = 0) && canEnter w then (enter w, true) else (w, false)
abbrev StepStartS (R : Rel) : Prop := ∀ w : World, szWorld w ≤ 4194304 → R [arg (eWorld w)] [] (.tup [.agg (eWorld (stepStart w).1), B (stepStart w).2]) []
theorem sumF_mapI_le {α : Type} {f : α → Nat} {g : Nat → α → α} (h : ∀ i x, f (g i x) ≤ f x + 1) : ∀ xs : List α, sumF f (xs.mapIdx g) ≤ sumF f xs + xs.length := by
  intro xs
  induction xs generalizing g with
  | nil => simp [sumF]
  | cons x r ih =>
    have h0 := h 0 x
    have ih' := ih (g := fun i => g (i + 1)) (fun i x => h (i + 1) x)
    simp only [sumF, List.mapIdx_cons, List.map_cons, List.length_cons, List.sum_cons, List.length_mapIdx] at *
    omega
theorem enterEnd_sz (w : World) (i : Nat) (x : Endpoint) : szEndpoint (enterEnd w i x) ≤ szEndpoint x + 1 := by
  unfold enterEnd
  split
  · have := putV_len x.versions w.rollout.version
    simp only [szEndpoint]
    omega
  · omega
theorem enter_sz (w : World) : szWorld (enter w) ≤ szWorld w + w.ends.length := by
  have := sumF_mapI_le (f := szEndpoint) (enterEnd_sz w) w.ends
  have h0 : sumF szDialed ([] : List Dialed) = 0 := rfl
  unfold enter
  split
  · simp only [szWorld, h0]
    omega
  · omega
theorem stepStart_sz (w : World) : szWorld (stepStart w).1 ≤ szWorld w + w.ends.length := by
  unfold stepStart
  split
  · exact enter_sz w
  · dsimp only; omega
end Go.Eng.T

