/- Own work: part 44 of the proof of FnExactIsSober. -/
import Derived.Test.YtcgnjpoingikcabP43
set_option linter.unusedSimpArgs false
set_option linter.unusedVariables false
namespace Go.Eng.T

abbrev MaskedByS (R : Rel) : Prop := ∀ (xs : List Dialed) (v : Int), xs.length ≤ maxLen → (∀ (j : Nat) (h : j < xs.length), xs[j].up.length ≤ maxLen) →
  R [.sl 1 5 xs.length (xs.flatMap eDialed), I v] [] (.tup [I (cntF (goodD v) xs), I (cntF (badD v) xs)]) []
abbrev IsBadDialS (R : Rel) : Prop := ∀ (d : Dialed) (v : Int), d.up.length ≤ maxLen → R [arg (eDialed d), I v] [] (B (badD v d)) []
end Go.Eng.T

namespace Go.Eng.T

/-- the numbers from k on -/
def nums : Nat → Int → List Int
  | 0, _ => []
  | n + 1, k => k :: nums n (k + 1)
@[simp] theorem nums_len : ∀ (n : Nat) (k : Int), (nums n k).length = n
  | 0, _ => rfl
  | n + 1, k => by simp [nums, nums_len n]
theorem nums_get : ∀ (n : Nat) (k : Int) (j : Nat) (h : j < (nums n k).length), (nums n k)[j] = k + j
  | 0, k, j, h => by simp [nums] at h
  | n + 1, k, 0, h => by simp [nums]
  | n + 1, k, j + 1, h => by
    simp only [nums, List.getElem_cons_succ]
    rw [nums_get n (k + 1) j (by simpa [nums] using h)]
    simp; omega

/-- a row marked element by element -/
def mkL {α : Type} (mc : α → Nat) (mk : α → Int → α) : List α → Int → List α
  | [], _ => []
  | x :: r, k => mk x k :: mkL mc mk r (k + mc x)
def mcL {α : Type} (mc : α → Nat) (xs : List α) : Nat := (xs.map mc).sum
section
variable {α : Type} {mc : α → Nat} {mk : α → Int → α}
@[simp] theorem mkL_len : ∀ (xs : List α) (k : Int), (mkL mc mk xs k).length = xs.length
  | [], _ => rfl
  | x :: r, k => by simp [mkL, mkL_len r]
theorem mkL_get : ∀ (xs : List α) (k : Int) (j : Nat) (h : j < xs.length), (mkL mc mk xs k)[j]'(by simpa using h) = mk xs[j] (k + (mcL mc (xs.take j) : Nat))
  | [], k, j, h => by simp at h
  | x :: r, k, 0, h => by simp [mkL, mcL]
  | x :: r, k, j + 1, h => by
    simp only [mkL, List.getElem_cons_succ]
    rw [mkL_get r (k + mc x) j (by simpa using h)]
    simp [mcL]; congr 1; omega
theorem mkL_append (ys : List α) : ∀ (xs : List α) (k : Int), mkL mc mk (xs ++ ys) k = mkL mc mk xs k ++ mkL mc mk ys (k + (mcL mc xs : Nat))
  | [], k => by simp [mkL, mcL]
  | x :: r, k => by
    simp only [List.cons_append, mkL, mkL_append ys r]
    simp [mcL]; congr 1; omega
/-- under way -/
def mkJ (mc : α → Nat) (mk : α → Int → α) (xs : List α) (k : Int) (j : Nat) : List α := mkL mc mk (xs.take j) k ++ xs.drop j
theorem mkJ_zero {xs : List α} {k : Int} : mkJ mc mk xs k 0 = xs := by simp [mkJ, mkL]
theorem mkJ_all {xs : List α} {k : Int} {j : Nat} (h : xs.length ≤ j) : mkJ mc mk xs k j = mkL mc mk xs k := by simp [mkJ, List.take_of_length_le h, List.drop_eq_nil_of_le h]
@[simp] theorem mkJ_len {xs : List α} {k : Int} {j : Nat} (h : j ≤ xs.length) : (mkJ mc mk xs k j).length = xs.length := by simp [mkJ]; omega
theorem mkJ_get {xs : List α} {k : Int} {j : Nat} (h : j < xs.length) : (mkJ mc mk xs k j)[j]'(by rw [mkJ_len (by omega)]; exact h) = xs[j] := by
  unfold mkJ
  have hl : (mkL mc mk (xs.take j) k).length = j := by simp; omega
  rw [List.getElem_append_right (by omega)]
  simp [hl]
theorem mkJ_set {xs : List α} {k : Int} {j : Nat} (h : j < xs.length) : (mkJ mc mk xs k j).set j (mk xs[j] (k + (mcL mc (xs.take j) : Nat))) = mkJ mc mk xs k (j + 1) := by
  unfold mkJ
  have hl : (mkL mc mk (xs.take j) k).length = j := by simp; omega
  have ht : xs.take (j + 1) = xs.take j ++ [xs[j]] := by simp
  rw [List.set_append_right _ _ (by omega), hl, Nat.sub_self, ht, mkL_append, List.drop_eq_getElem_cons h, List.set_cons_zero, List.append_assoc]
  rfl
theorem mcL_step {xs : List α} {j : Nat} (h : j < xs.length) : mcL mc (xs.take (j + 1)) = mcL mc (xs.take j) + mc xs[j] := sum_take h
theorem mcL_le {xs : List α} {j : Nat} : mcL mc (xs.take j) ≤ mcL mc xs := sum_take_le
theorem mcL_all {xs : List α} {j : Nat} (h : xs.length ≤ j) : mcL mc (xs.take j) = mcL mc xs := sum_all h
theorem mcL_ge (h : ∀ x, 1 ≤ mc x) (xs : List α) : xs.length ≤ mcL mc xs := by
  induction xs with
  | nil => simp
  | cons x r ih =>
    have := h x
    simp [mcL] at *
    omega
end
theorem set_flat {α : Type} {f : α → List V} {e : Nat} (hf : ∀ x, (f x).length = e) {o : Nat} (ho : o < e) {v : V} {y : α} : ∀ {xs : List α} {j : Nat} (h : j < xs.length), f y = (f xs[j]).set o v → (xs.flatMap f).set (j * e + o) v = (xs.set j y).flatMap f
  | [], j, h, _ => by simp at h
  | x :: xs, 0, _, hy => by
    simp only [List.flatMap_cons, List.set_cons_zero, Nat.zero_mul, Nat.zero_add]
    rw [List.set_append_left _ _ (by rw [hf]; exact ho), hy]
    rfl
  | x :: xs, j + 1, h, hy => by
    simp only [List.flatMap_cons, List.set_cons_succ]
    have e1 : (j + 1) * e + o = (f x).length + (j * e + o) := by rw [hf, Nat.add_mul]; omega
    rw [e1, List.set_append_right _ _ (by omega), Nat.add_sub_cancel_left, set_flat hf ho (by simpa using h) (by simpa using hy)]
@[simp high] theorem eBox_s0 {xs : List Box} {j : Nat} (h : j < xs.length) (a : Int) : (xs.flatMap eBox).set (j * 4) (.sc (.int .i64 a)) = (xs.set j ⟨a, xs[j].drops, xs[j].strips, xs[j].lists⟩).flatMap eBox := set_flat (o := 0) eBox_len (by omega) h rfl
@[simp high] theorem eBox_s1 {xs : List Box} {j : Nat} (h : j < xs.length) {n : Nat} (a : List Int) (hn : n = a.length) : (xs.flatMap eBox).set (j * 4 + 1) (.sl 0 1 n (ints a)) = (xs.set j ⟨xs[j].limit, a, xs[j].strips, xs[j].lists⟩).flatMap eBox := by subst hn; exact set_flat (o := 1) eBox_len (by omega) h rfl
@[simp high] theorem eBox_s2 {xs : List Box} {j : Nat} (h : j < xs.length) {n : Nat} (a : List Int) (hn : n = a.length) : (xs.flatMap eBox).set (j * 4 + 2) (.sl 0 1 n (ints a)) = (xs.set j ⟨xs[j].limit, xs[j].drops, a, xs[j].lists⟩).flatMap eBox := by subst hn; exact set_flat (o := 2) eBox_len (by omega) h rfl
@[simp high] theorem eBox_s3 {xs : List Box} {j : Nat} (h : j < xs.length) (a : Bool) : (xs.flatMap eBox).set (j * 4 + 3) (.sc (.bool a)) = (xs.set j ⟨xs[j].limit, xs[j].drops, xs[j].strips, a⟩).flatMap eBox := set_flat (o := 3) eBox_len (by omega) h rfl
@[simp high] theorem eDialed_s0 {xs : List Dialed} {j : Nat} (h : j < xs.length) (a : Bool) : (xs.flatMap eDialed).set (j * 5) (.sc (.bool a)) = (xs.set j ⟨⟨a, xs[j].deal.version, xs[j].deal.tags⟩, xs[j].tries, xs[j].up⟩).flatMap eDialed := set_flat (o := 0) eDialed_len (by omega) h rfl
@[simp high] theorem eDialed_s1 {xs : List Dialed} {j : Nat} (h : j < xs.length) (a : Int) : (xs.flatMap eDialed).set (j * 5 + 1) (.sc (.int .i64 a)) = (xs.set j ⟨⟨xs[j].deal.ok, a, xs[j].deal.tags⟩, xs[j].tries, xs[j].up⟩).flatMap eDialed := set_flat (o := 1) eDialed_len (by omega) h rfl
@[simp high] theorem eDialed_s2 {xs : List Dialed} {j : Nat} (h : j < xs.length) {n : Nat} (a : List Int) (hn : n = a.length) : (xs.flatMap eDialed).set (j * 5 + 2) (.sl 0 1 n (ints a)) = (xs.set j ⟨⟨xs[j].deal.ok, xs[j].deal.version, a⟩, xs[j].tries, xs[j].up⟩).flatMap eDialed := by subst hn; exact set_flat (o := 2) eDialed_len (by omega) h rfl
@[simp high] theorem eDialed_s3 {xs : List Dialed} {j : Nat} (h : j < xs.length) (a : Int) : (xs.flatMap eDialed).set (j * 5 + 3) (.sc (.int .i64 a)) = (xs.set j ⟨⟨xs[j].deal.ok, xs[j].deal.version, xs[j].deal.tags⟩, a, xs[j].up⟩).flatMap eDialed := set_flat (o := 3) eDialed_len (by omega) h rfl
@[simp high] theorem eDialed_s4 {xs : List Dialed} {j : Nat} (h : j < xs.length) {n : Nat} (a : List Int) (hn : n = a.length) : (xs.flatMap eDialed).set (j * 5 + 4) (.sl 0 1 n (ints a)) = (xs.set j ⟨⟨xs[j].deal.ok, xs[j].deal.version, xs[j].deal.tags⟩, xs[j].tries, a⟩).flatMap eDialed := by subst hn; exact set_flat (o := 4) eDialed_len (by omega) h rfl
@[simp high] theorem eEndpoint_s0 {xs : List Endpoint} {j : Nat} (h : j < xs.length) {n : Nat} (a : List Int) (hn : n = a.length) : (xs.flatMap eEndpoint).set (j * 4) (.sl 0 1 n (ints a)) = (xs.set j ⟨a, xs[j].tags, xs[j].path, xs[j].cls⟩).flatMap eEndpoint := by subst hn; exact set_flat (o := 0) eEndpoint_len (by omega) h rfl
@[simp high] theorem eEndpoint_s1 {xs : List Endpoint} {j : Nat} (h : j < xs.length) {n : Nat} (a : List Int) (hn : n = a.length) : (xs.flatMap eEndpoint).set (j * 4 + 1) (.sl 0 1 n (ints a)) = (xs.set j ⟨xs[j].versions, a, xs[j].path, xs[j].cls⟩).flatMap eEndpoint := by subst hn; exact set_flat (o := 1) eEndpoint_len (by omega) h rfl
@[simp high] theorem eEndpoint_s2 {xs : List Endpoint} {j : Nat} (h : j < xs.length) {n : Nat} (a : List Box) (hn : n = a.length) : (xs.flatMap eEndpoint).set (j * 4 + 2) (.sl 0 4 n (a.flatMap eBox)) = (xs.set j ⟨xs[j].versions, xs[j].tags, a, xs[j].cls⟩).flatMap eEndpoint := by subst hn; exact set_flat (o := 2) eEndpoint_len (by omega) h rfl
@[simp high] theorem eEndpoint_s3 {xs : List Endpoint} {j : Nat} (h : j < xs.length) (a : Int) : (xs.flatMap eEndpoint).set (j * 4 + 3) (.sc (.int .i64 a)) = (xs.set j ⟨xs[j].versions, xs[j].tags, xs[j].path, a⟩).flatMap eEndpoint := set_flat (o := 3) eEndpoint_len (by omega) h rfl
@[simp high] theorem eLogged_s0 {xs : List Logged} {j : Nat} (h : j < xs.length) (a : Int) : (xs.flatMap eLogged).set (j * 8) (.sc (.int .i64 a)) = (xs.set j ⟨a, xs[j].tick, xs[j].on, ⟨⟨xs[j].dialed.deal.ok, xs[j].dialed.deal.version, xs[j].dialed.deal.tags⟩, xs[j].dialed.tries, xs[j].dialed.up⟩⟩).flatMap eLogged := set_flat (o := 0) eLogged_len (by omega) h rfl
@[simp high] theorem eLogged_s1 {xs : List Logged} {j : Nat} (h : j < xs.length) (a : Int) : (xs.flatMap eLogged).set (j * 8 + 1) (.sc (.int .i64 a)) = (xs.set j ⟨xs[j].fin, a, xs[j].on, ⟨⟨xs[j].dialed.deal.ok, xs[j].dialed.deal.version, xs[j].dialed.deal.tags⟩, xs[j].dialed.tries, xs[j].dialed.up⟩⟩).flatMap eLogged := set_flat (o := 1) eLogged_len (by omega) h rfl
@[simp high] theorem eLogged_s2 {xs : List Logged} {j : Nat} (h : j < xs.length) (a : Bool) : (xs.flatMap eLogged).set (j * 8 + 2) (.sc (.bool a)) = (xs.set j ⟨xs[j].fin, xs[j].tick, a, ⟨⟨xs[j].dialed.deal.ok, xs[j].dialed.deal.version, xs[j].dialed.deal.tags⟩, xs[j].dialed.tries, xs[j].dialed.up⟩⟩).flatMap eLogged := set_flat (o := 2) eLogged_len (by omega) h rfl
@[simp high] theorem eLogged_s3 {xs : List Logged} {j : Nat} (h : j < xs.length) (a : Bool) : (xs.flatMap eLogged).set (j * 8 + 3) (.sc (.bool a)) = (xs.set j ⟨xs[j].fin, xs[j].tick, xs[j].on, ⟨⟨a, xs[j].dialed.deal.version, xs[j].dialed.deal.tags⟩, xs[j].dialed.tries, xs[j].dialed.up⟩⟩).flatMap eLogged := set_flat (o := 3) eLogged_len (by omega) h rfl
@[simp high] theorem eLogged_s4 {xs : List Logged} {j : Nat} (h : j < xs.length) (a : Int) : (xs.flatMap eLogged).set (j * 8 + 4) (.sc (.int .i64 a)) = (xs.set j ⟨xs[j].fin, xs[j].tick, xs[j].on, ⟨⟨xs[j].dialed.deal.ok, a, xs[j].dialed.deal.tags⟩, xs[j].dialed.tries, xs[j].dialed.up⟩⟩).flatMap eLogged := set_flat (o := 4) eLogged_len (by omega) h rfl
@[simp high] theorem eLogged_s5 {xs : List Logged} {j : Nat} (h : j < xs.length) {n : Nat} (a : List Int) (hn : n = a.length) : (xs.flatMap eLogged).set (j * 8 + 5) (.sl 0 1 n (ints a)) = (xs.set j ⟨xs[j].fin, xs[j].tick, xs[j].on, ⟨⟨xs[j].dialed.deal.ok, xs[j].dialed.deal.version, a⟩, xs[j].dialed.tries, xs[j].dialed.up⟩⟩).flatMap eLogged := by subst hn; exact set_flat (o := 5) eLogged_len (by omega) h rfl
@[simp high] theorem eLogged_s6 {xs : List Logged} {j : Nat} (h : j < xs.length) (a : Int) : (xs.flatMap eLogged).set (j * 8 + 6) (.sc (.int .i64 a)) = (xs.set j ⟨xs[j].fin, xs[j].tick, xs[j].on, ⟨⟨xs[j].dialed.deal.ok, xs[j].dialed.deal.version, xs[j].dialed.deal.tags⟩, a, xs[j].dialed.up⟩⟩).flatMap eLogged := set_flat (o := 6) eLogged_len (by omega) h rfl
@[simp high] theorem eLogged_s7 {xs : List Logged} {j : Nat} (h : j < xs.length) {n : Nat} (a : List Int) (hn : n = a.length) : (xs.flatMap eLogged).set (j * 8 + 7) (.sl 0 1 n (ints a)) = (xs.set j ⟨xs[j].fin, xs[j].tick, xs[j].on, ⟨⟨xs[j].dialed.deal.ok, xs[j].dialed.deal.version, xs[j].dialed.deal.tags⟩, xs[j].dialed.tries, a⟩⟩).flatMap eLogged := by subst hn; exact set_flat (o := 7) eLogged_len (by omega) h rfl
@[simp high] theorem eEvent_s0 {xs : List Event} {j : Nat} (h : j < xs.length) (a : Int) : (xs.flatMap eEvent).set (j * 6) (.sc (.int .i64 a)) = (xs.set j ⟨a, xs[j].n, ⟨xs[j].box.limit, xs[j].box.drops, xs[j].box.strips, xs[j].box.lists⟩⟩).flatMap eEvent := set_flat (o := 0) eEvent_len (by omega) h rfl
@[simp high] theorem eEvent_s1 {xs : List Event} {j : Nat} (h : j < xs.length) (a : Int) : (xs.flatMap eEvent).set (j * 6 + 1) (.sc (.int .i64 a)) = (xs.set j ⟨xs[j].kind, a, ⟨xs[j].box.limit, xs[j].box.drops, xs[j].box.strips, xs[j].box.lists⟩⟩).flatMap eEvent := set_flat (o := 1) eEvent_len (by omega) h rfl
@[simp high] theorem eEvent_s2 {xs : List Event} {j : Nat} (h : j < xs.length) (a : Int) : (xs.flatMap eEvent).set (j * 6 + 2) (.sc (.int .i64 a)) = (xs.set j ⟨xs[j].kind, xs[j].n, ⟨a, xs[j].box.drops, xs[j].box.strips, xs[j].box.lists⟩⟩).flatMap eEvent := set_flat (o := 2) eEvent_len (by omega) h rfl
@[simp high] theorem eEvent_s3 {xs : List Event} {j : Nat} (h : j < xs.length) {n : Nat} (a : List Int) (hn : n = a.length) : (xs.flatMap eEvent).set (j * 6 + 3) (.sl 0 1 n (ints a)) = (xs.set j ⟨xs[j].kind, xs[j].n, ⟨xs[j].box.limit, a, xs[j].box.strips, xs[j].box.lists⟩⟩).flatMap eEvent := by subst hn; exact set_flat (o := 3) eEvent_len (by omega) h rfl
@[simp high] theorem eEvent_s4 {xs : List Event} {j : Nat} (h : j < xs.length) {n : Nat} (a : List Int) (hn : n = a.length) : (xs.flatMap eEvent).set (j * 6 + 4) (.sl 0 1 n (ints a)) = (xs.set j ⟨xs[j].kind, xs[j].n, ⟨xs[j].box.limit, xs[j].box.drops, a, xs[j].box.lists⟩⟩).flatMap eEvent := by subst hn; exact set_flat (o := 4) eEvent_len (by omega) h rfl
@[simp high] theorem eEvent_s5 {xs : List Event} {j : Nat} (h : j < xs.length) (a : Bool) : (xs.flatMap eEvent).set (j * 6 + 5) (.sc (.bool a)) = (xs.set j ⟨xs[j].kind, xs[j].n, ⟨xs[j].box.limit, xs[j].box.drops, xs[j].box.strips, a⟩⟩).flatMap eEvent := set_flat (o := 5) eEvent_len (by omega) h rfl
def mcDeal (x : Deal) : Nat := x.tags.length
def mkDeal (x : Deal) (k : Int) : Deal := ⟨x.ok, x.version, nums x.tags.length (k)⟩
def mcBox (x : Box) : Nat := 1 + x.drops.length + x.strips.length + 1
def mkBox (x : Box) (k : Int) : Box := ⟨k, nums x.drops.length (k + 1), nums x.strips.length (k + 1 + ((x.drops.length : Nat) : Int)), ((k + 1 + ((x.drops.length : Nat) : Int) + ((x.strips.length : Nat) : Int)).tmod 3 == 0)⟩
def mcDialed (x : Dialed) : Nat := 1 + 1 + x.deal.tags.length + 1 + x.up.length
def mkDialed (x : Dialed) (k : Int) : Dialed := ⟨⟨((k).tmod 3 == 0), k + 1, nums x.deal.tags.length (k + 1 + 1)⟩, k + 1 + 1 + ((x.deal.tags.length : Nat) : Int), nums x.up.length (k + 1 + 1 + ((x.deal.tags.length : Nat) : Int) + 1)⟩
def mcEndpoint (x : Endpoint) : Nat := x.versions.length + x.tags.length + mcL mcBox x.path + 1
def mkEndpoint (x : Endpoint) (k : Int) : Endpoint := ⟨nums x.versions.length (k), nums x.tags.length (k + ((x.versions.length : Nat) : Int)), mkL mcBox mkBox x.path (k + ((x.versions.length : Nat) : Int) + ((x.tags.length : Nat) : Int)), k + ((x.versions.length : Nat) : Int) + ((x.tags.length : Nat) : Int) + ((mcL mcBox x.path : Nat) : Int)⟩
def mcLogged (x : Logged) : Nat := 1 + 1 + 1 + 1 + 1 + x.dialed.deal.tags.length + 1 + x.dialed.up.length
def mkLogged (x : Logged) (k : Int) : Logged := ⟨k, k + 1, ((k + 1 + 1).tmod 3 == 0), ⟨⟨((k + 1 + 1 + 1).tmod 3 == 0), k + 1 + 1 + 1 + 1, nums x.dialed.deal.tags.length (k + 1 + 1 + 1 + 1 + 1)⟩, k + 1 + 1 + 1 + 1 + 1 + ((x.dialed.deal.tags.length : Nat) : Int), nums x.dialed.up.length (k + 1 + 1 + 1 + 1 + 1 + ((x.dialed.deal.tags.length : Nat) : Int) + 1)⟩⟩
def mcEvent (x : Event) : Nat := 1 + 1 + 1 + x.box.drops.length + x.box.strips.length + 1
def mkEvent (x : Event) (k : Int) : Event := ⟨k, k + 1, ⟨k + 1 + 1, nums x.box.drops.length (k + 1 + 1 + 1), nums x.box.strips.length (k + 1 + 1 + 1 + ((x.box.drops.length : Nat) : Int)), ((k + 1 + 1 + 1 + ((x.box.drops.length : Nat) : Int) + ((x.box.strips.length : Nat) : Int)).tmod 3 == 0)⟩⟩
def mcRollout (x : Rollout) : Nat := x.stages.length
def mkRollout (x : Rollout) (k : Int) : Rollout := ⟨x.version, nums x.stages.length (k), x.pos, x.off⟩
def mcWorld (x : World) : Nat := x.server.length + x.tags.length + mcL mcEndpoint x.ends + x.rollout.stages.length + mcL mcDialed x.stage + mcL mcLogged x.log
def mkWorld (x : World) (k : Int) : World := ⟨nums x.server.length (k), nums x.tags.length (k + ((x.server.length : Nat) : Int)), x.key, mkL mcEndpoint mkEndpoint x.ends (k + ((x.server.length : Nat) : Int) + ((x.tags.length : Nat) : Int)), ⟨x.rollout.version, nums x.rollout.stages.length (k + ((x.server.length : Nat) : Int) + ((x.tags.length : Nat) : Int) + ((mcL mcEndpoint x.ends : Nat) : Int)), x.rollout.pos, x.rollout.off⟩, x.least, x.percent, mkL mcDialed mkDialed x.stage (k + ((x.server.length : Nat) : Int) + ((x.tags.length : Nat) : Int) + ((mcL mcEndpoint x.ends : Nat) : Int) + ((x.rollout.stages.length : Nat) : Int)), mkL mcLogged mkLogged x.log (k + ((x.server.length : Nat) : Int) + ((x.tags.length : Nat) : Int) + ((mcL mcEndpoint x.ends : Nat) : Int) + ((x.rollout.stages.length : Nat) : Int) + ((mcL mcDialed x.stage : Nat) : Int)), x.now, x.hurt, x.reached⟩
def mcTBox (x : Box) : Nat := x.drops.length + x.strips.length
def mkTBox (x : Box) (k : Int) : Box := ⟨x.limit, nums x.drops.length (k), nums x.strips.length (k + ((x.drops.length : Nat) : Int)), x.lists⟩
def mcTDialed (x : Dialed) : Nat := x.deal.tags.length + x.up.length
def mkTDialed (x : Dialed) (k : Int) : Dialed := ⟨⟨x.deal.ok, x.deal.version, nums x.deal.tags.length (k)⟩, x.tries, nums x.up.length (k + ((x.deal.tags.length : Nat) : Int))⟩
def mcTEndpoint (x : Endpoint) : Nat := x.versions.length + x.tags.length + mcL mcBox x.path
def mkTEndpoint (x : Endpoint) (k : Int) : Endpoint := ⟨nums x.versions.length (k), nums x.tags.length (k + ((x.versions.length : Nat) : Int)), mkL mcBox mkBox x.path (k + ((x.versions.length : Nat) : Int) + ((x.tags.length : Nat) : Int)), x.cls⟩
def mcTLogged (x : Logged) : Nat := x.dialed.deal.tags.length + x.dialed.up.length
def mkTLogged (x : Logged) (k : Int) : Logged := ⟨x.fin, x.tick, x.on, ⟨⟨x.dialed.deal.ok, x.dialed.deal.version, nums x.dialed.deal.tags.length (k)⟩, x.dialed.tries, nums x.dialed.up.length (k + ((x.dialed.deal.tags.length : Nat) : Int))⟩⟩
def mcTEvent (x : Event) : Nat := x.box.drops.length + x.box.strips.length
def mkTEvent (x : Event) (k : Int) : Event := ⟨x.kind, x.n, ⟨x.box.limit, nums x.box.drops.length (k), nums x.box.strips.length (k + ((x.box.drops.length : Nat) : Int)), x.box.lists⟩⟩
end Go.Eng.T

namespace Go.Eng.T
theorem datL_cons {y : Ty} {ys : List Ty} {cs : List V} (h : DatL (y :: ys) cs) : ∃ a b, Dat y a ∧ DatL ys b ∧ cs = a ++ b := by simp only [DatL] at h; exact h
theorem datL_nil {cs : List V} (h : DatL [] cs) : cs = [] := by simp only [DatL] at h; exact h
theorem dat_st {ys : List Ty} {cs : List V} (h : Dat (.st ys) cs) : DatL ys cs := by simp only [Dat] at h; exact h
def rgI (n : Int) : Prop := -9223372036854775808 ≤ n ∧ n ≤ 9223372036854775807
theorem rg_of {n : Int} (h : (Lit.int .i64 n).wf = true) : rgI n := by
  simp only [Lit.wf, IntKind.min, IntKind.max, IntKind.bits, IntKind.signed, Bool.and_eq_true, decide_eq_true_eq] at h
  exact ⟨h.1, h.2⟩
theorem datI {cs : List V} (h : Dat (.int .i64) cs) : ∃ n, cs = [.sc (.int .i64 n)] ∧ rgI n := by
  simp only [Dat] at h
  obtain ⟨n, h1, h2⟩ := h
  exact ⟨n, h2, rg_of h1⟩
theorem datB {cs : List V} (h : Dat .bool cs) : ∃ b, cs = [.sc (.bool b)] := by simp only [Dat] at h; exact h
theorem datS {cs : List V} (h : Dat .str cs) : ∃ s : ByteArray, cs = [.sc (.string s)] ∧ s.size ≤ maxLen := by
  simp only [Dat] at h
  obtain ⟨n, h1, h2⟩ := h
  exact ⟨n, h2, h1⟩
theorem choose_row {α : Type} {f : α → List V} {p : α → Prop} : ∀ {xs : List (List V)}, (∀ x, x ∈ xs → ∃ d, x = f d ∧ p d) → ∃ ds : List α, xs = ds.map f ∧ ∀ d, d ∈ ds → p d
  | [], _ => ⟨[], rfl, by simp⟩
  | x :: xs, h => by
    obtain ⟨d, rfl, hd⟩ := h x (by simp)
    obtain ⟨ds, rfl, hds⟩ := choose_row (xs := xs) fun y hy => h y (by simp [hy])
    exact ⟨d :: ds, rfl, by intro y hy; rcases List.mem_cons.1 hy with rfl | hy; exact hd; exact hds y hy⟩
theorem datRow {α : Type} {y : Ty} {f : α → List V} {p : α → Prop} (hf : ∀ cs, Dat y cs → ∃ d, cs = f d ∧ p d) {cs : List V} (h : Dat (.sl y) cs) :
    ∃ ds : List α, cs = [.sl 0 y.cells ds.length (ds.flatMap f)] ∧ ds.length ≤ maxLen ∧ ∀ d, d ∈ ds → p d := by
  simp only [Dat] at h
  obtain ⟨xs, h1, h2, rfl⟩ := h
  obtain ⟨ds, rfl, h3⟩ := choose_row (f := f) (p := p) (xs := xs) fun x hx => hf x (h2 x hx)
  exact ⟨ds, by simp [List.flatMap_def], by simpa using h1, h3⟩
def rgInts (xs : List Int) : Prop := ∀ x, x ∈ xs → rgI x
def rgS {α : Type} (f : α → Prop) (xs : List α) : Prop := ∀ x, x ∈ xs → f x
theorem datInts {cs : List V} (h : Dat (.sl (.int .i64)) cs) : ∃ xs : List Int, cs = [.sl 0 1 xs.length (ints xs)] ∧ lnInts xs ∧ rgInts xs := by
  obtain ⟨ds, h1, h2, h3⟩ := datRow (f := fun n => [V.sc (.int .i64 n)]) (p := rgI) (fun cs h => datI h) h
  refine ⟨ds, ?_, h2, h3⟩
  have e : ds.flatMap (fun n => [V.sc (.int .i64 n)]) = ints ds := by
    clear h1 h2 h3
    induction ds with
    | nil => rfl
    | cons a ds ih => rw [List.flatMap_cons, ih]; rfl
  rw [h1, e]
  rfl
def tyDeal : Ty := .st [.bool, .int .i64, .sl (.int .i64)]
def rgDeal (d : Deal) : Prop := rgI d.version ∧ rgInts d.tags
theorem datDeal {cs : List V} (h : Dat tyDeal cs) : ∃ x : Deal, cs = eDeal x ∧ lnDeal x ∧ rgDeal x := by
  have h0 := dat_st h
  obtain ⟨a0, r0, g0, h1, e0⟩ := datL_cons h0
  obtain ⟨x0, rfl⟩ := datB g0
  obtain ⟨a1, r1, g1, h2, e1⟩ := datL_cons h1
  obtain ⟨x1, rfl, w1⟩ := datI g1
  obtain ⟨a2, r2, g2, h3, e2⟩ := datL_cons h2
  obtain ⟨x2, rfl, l2, w2⟩ := datInts g2
  have z := datL_nil h3
  subst z; subst e2; subst e1; subst e0
  exact ⟨⟨x0, x1, x2⟩, rfl, l2, ⟨w1, w2⟩⟩
def tyBox : Ty := .st [.int .i64, .sl (.int .i64), .sl (.int .i64), .bool]
def rgBox (d : Box) : Prop := rgI d.limit ∧ rgInts d.drops ∧ rgInts d.strips
theorem datBox {cs : List V} (h : Dat tyBox cs) : ∃ x : Box, cs = eBox x ∧ lnBox x ∧ rgBox x := by
  have h0 := dat_st h
  obtain ⟨a0, r0, g0, h1, e0⟩ := datL_cons h0
  obtain ⟨x0, rfl, w0⟩ := datI g0
  obtain ⟨a1, r1, g1, h2, e1⟩ := datL_cons h1
  obtain ⟨x1, rfl, l1, w1⟩ := datInts g1
  obtain ⟨a2, r2, g2, h3, e2⟩ := datL_cons h2
  obtain ⟨x2, rfl, l2, w2⟩ := datInts g2
  obtain ⟨a3, r3, g3, h4, e3⟩ := datL_cons h3
  obtain ⟨x3, rfl⟩ := datB g3
  have z := datL_nil h4
  subst z; subst e3; subst e2; subst e1; subst e0
  exact ⟨⟨x0, x1, x2, x3⟩, rfl, ⟨l1, l2⟩, ⟨w0, w1, w2⟩⟩
theorem datBoxS {cs : List V} (h : Dat (.sl tyBox) cs) : ∃ xs : List Box, cs = [.sl 0 4 xs.length (xs.flatMap eBox)] ∧ lnS lnBox xs ∧ rgS rgBox xs := by
  obtain ⟨ds, h1, h2, h3⟩ := datRow (f := eBox) (p := fun x => lnBox x ∧ rgBox x) (fun cs h => datBox h) h
  exact ⟨ds, h1, ⟨h2, fun j hj => (h3 _ (List.getElem_mem hj)).1⟩, fun x hx => (h3 x hx).2⟩
def tyDialed : Ty := .st [tyDeal, .int .i64, .sl (.int .i64)]
def rgDialed (d : Dialed) : Prop := rgDeal d.deal ∧ rgI d.tries ∧ rgInts d.up
theorem datDialed {cs : List V} (h : Dat tyDialed cs) : ∃ x : Dialed, cs = eDialed x ∧ lnDialed x ∧ rgDialed x := by
  have h0 := dat_st h
  obtain ⟨a0, r0, g0, h1, e0⟩ := datL_cons h0
  obtain ⟨x0, rfl, l0, w0⟩ := datDeal g0
  obtain ⟨a1, r1, g1, h2, e1⟩ := datL_cons h1
  obtain ⟨x1, rfl, w1⟩ := datI g1
  obtain ⟨a2, r2, g2, h3, e2⟩ := datL_cons h2
  obtain ⟨x2, rfl, l2, w2⟩ := datInts g2
  have z := datL_nil h3
  subst z; subst e2; subst e1; subst e0
  exact ⟨⟨x0, x1, x2⟩, rfl, ⟨l0, l2⟩, ⟨w0, w1, w2⟩⟩
theorem datDialedS {cs : List V} (h : Dat (.sl tyDialed) cs) : ∃ xs : List Dialed, cs = [.sl 0 5 xs.length (xs.flatMap eDialed)] ∧ lnS lnDialed xs ∧ rgS rgDialed xs := by
  obtain ⟨ds, h1, h2, h3⟩ := datRow (f := eDialed) (p := fun x => lnDialed x ∧ rgDialed x) (fun cs h => datDialed h) h
  exact ⟨ds, h1, ⟨h2, fun j hj => (h3 _ (List.getElem_mem hj)).1⟩, fun x hx => (h3 x hx).2⟩
def tyRollout : Ty := .st [.int .i64, .sl (.int .i64), .int .i64, .bool]
def rgRollout (d : Rollout) : Prop := rgI d.version ∧ rgInts d.stages ∧ rgI d.pos
theorem datRollout {cs : List V} (h : Dat tyRollout cs) : ∃ x : Rollout, cs = eRollout x ∧ lnRollout x ∧ rgRollout x := by
  have h0 := dat_st h
  obtain ⟨a0, r0, g0, h1, e0⟩ := datL_cons h0
  obtain ⟨x0, rfl, w0⟩ := datI g0
  obtain ⟨a1, r1, g1, h2, e1⟩ := datL_cons h1
  obtain ⟨x1, rfl, l1, w1⟩ := datInts g1
  obtain ⟨a2, r2, g2, h3, e2⟩ := datL_cons h2
  obtain ⟨x2, rfl, w2⟩ := datI g2
  obtain ⟨a3, r3, g3, h4, e3⟩ := datL_cons h3
  obtain ⟨x3, rfl⟩ := datB g3
  have z := datL_nil h4
  subst z; subst e3; subst e2; subst e1; subst e0
  exact ⟨⟨x0, x1, x2, x3⟩, rfl, l1, ⟨w0, w1, w2⟩⟩
def tyEndpoint : Ty := .st [.sl (.int .i64), .sl (.int .i64), .sl tyBox, .int .i64]
def rgEndpoint (d : Endpoint) : Prop := rgInts d.versions ∧ rgInts d.tags ∧ rgS rgBox d.path ∧ rgI d.cls
theorem datEndpoint {cs : List V} (h : Dat tyEndpoint cs) : ∃ x : Endpoint, cs = eEndpoint x ∧ lnEndpoint x ∧ rgEndpoint x := by
  have h0 := dat_st h
  obtain ⟨a0, r0, g0, h1, e0⟩ := datL_cons h0
  obtain ⟨x0, rfl, l0, w0⟩ := datInts g0
  obtain ⟨a1, r1, g1, h2, e1⟩ := datL_cons h1
  obtain ⟨x1, rfl, l1, w1⟩ := datInts g1
  obtain ⟨a2, r2, g2, h3, e2⟩ := datL_cons h2
  obtain ⟨x2, rfl, l2, w2⟩ := datBoxS g2
  obtain ⟨a3, r3, g3, h4, e3⟩ := datL_cons h3
  obtain ⟨x3, rfl, w3⟩ := datI g3
  have z := datL_nil h4
  subst z; subst e3; subst e2; subst e1; subst e0
  exact ⟨⟨x0, x1, x2, x3⟩, rfl, ⟨l0, l1, l2⟩, ⟨w0, w1, w2, w3⟩⟩
theorem datEndpointS {cs : List V} (h : Dat (.sl tyEndpoint) cs) : ∃ xs : List Endpoint, cs = [.sl 0 4 xs.length (xs.flatMap eEndpoint)] ∧ lnS lnEndpoint xs ∧ rgS rgEndpoint xs := by
  obtain ⟨ds, h1, h2, h3⟩ := datRow (f := eEndpoint) (p := fun x => lnEndpoint x ∧ rgEndpoint x) (fun cs h => datEndpoint h) h
  exact ⟨ds, h1, ⟨h2, fun j hj => (h3 _ (List.getElem_mem hj)).1⟩, fun x hx => (h3 x hx).2⟩
def tyLogged : Ty := .st [.int .i64, .int .i64, .bool, tyDialed]
def rgLogged (d : Logged) : Prop := rgI d.fin ∧ rgI d.tick ∧ rgDialed d.dialed
theorem datLogged {cs : List V} (h : Dat tyLogged cs) : ∃ x : Logged, cs = eLogged x ∧ lnLogged x ∧ rgLogged x := by
  have h0 := dat_st h
  obtain ⟨a0, r0, g0, h1, e0⟩ := datL_cons h0
  obtain ⟨x0, rfl, w0⟩ := datI g0
  obtain ⟨a1, r1, g1, h2, e1⟩ := datL_cons h1
  obtain ⟨x1, rfl, w1⟩ := datI g1
  obtain ⟨a2, r2, g2, h3, e2⟩ := datL_cons h2
  obtain ⟨x2, rfl⟩ := datB g2
  obtain ⟨a3, r3, g3, h4, e3⟩ := datL_cons h3
  obtain ⟨x3, rfl, l3, w3⟩ := datDialed g3
  have z := datL_nil h4
  subst z; subst e3; subst e2; subst e1; subst e0
  exact ⟨⟨x0, x1, x2, x3⟩, rfl, l3, ⟨w0, w1, w3⟩⟩
theorem datLoggedS {cs : List V} (h : Dat (.sl tyLogged) cs) : ∃ xs : List Logged, cs = [.sl 0 8 xs.length (xs.flatMap eLogged)] ∧ lnS lnLogged xs ∧ rgS rgLogged xs := by
  obtain ⟨ds, h1, h2, h3⟩ := datRow (f := eLogged) (p := fun x => lnLogged x ∧ rgLogged x) (fun cs h => datLogged h) h
  exact ⟨ds, h1, ⟨h2, fun j hj => (h3 _ (List.getElem_mem hj)).1⟩, fun x hx => (h3 x hx).2⟩
def tyWorld : Ty := .st [.sl (.int .i64), .sl (.int .i64), .int .i64, .sl tyEndpoint, tyRollout, .int .i64, .int .i64, .sl tyDialed, .sl tyLogged, .int .i64, .int .i64, .int .i64]
def rgWorld (d : World) : Prop := rgInts d.server ∧ rgInts d.tags ∧ rgI d.key ∧ rgS rgEndpoint d.ends ∧ rgRollout d.rollout ∧ rgI d.least ∧ rgI d.percent ∧ rgS rgDialed d.stage ∧ rgS rgLogged d.log ∧ rgI d.now ∧ rgI d.hurt ∧ rgI d.reached
theorem datWorld {cs : List V} (h : Dat tyWorld cs) : ∃ x : World, cs = eWorld x ∧ lnWorld x ∧ rgWorld x := by
  have h0 := dat_st h
  obtain ⟨a0, r0, g0, h1, e0⟩ := datL_cons h0
  obtain ⟨x0, rfl, l0, w0⟩ := datInts g0
  obtain ⟨a1, r1, g1, h2, e1⟩ := datL_cons h1
  obtain ⟨x1, rfl, l1, w1⟩ := datInts g1
  obtain ⟨a2, r2, g2, h3, e2⟩ := datL_cons h2
  obtain ⟨x2, rfl, w2⟩ := datI g2
  obtain ⟨a3, r3, g3, h4, e3⟩ := datL_cons h3
  obtain ⟨x3, rfl, l3, w3⟩ := datEndpointS g3
  obtain ⟨a4, r4, g4, h5, e4⟩ := datL_cons h4
  obtain ⟨x4, rfl, l4, w4⟩ := datRollout g4
  obtain ⟨a5, r5, g5, h6, e5⟩ := datL_cons h5
  obtain ⟨x5, rfl, w5⟩ := datI g5
  obtain ⟨a6, r6, g6, h7, e6⟩ := datL_cons h6
  obtain ⟨x6, rfl, w6⟩ := datI g6
  obtain ⟨a7, r7, g7, h8, e7⟩ := datL_cons h7
  obtain ⟨x7, rfl, l7, w7⟩ := datDialedS g7
  obtain ⟨a8, r8, g8, h9, e8⟩ := datL_cons h8
  obtain ⟨x8, rfl, l8, w8⟩ := datLoggedS g8
  obtain ⟨a9, r9, g9, h10, e9⟩ := datL_cons h9
  obtain ⟨x9, rfl, w9⟩ := datI g9
  obtain ⟨a10, r10, g10, h11, e10⟩ := datL_cons h10
  obtain ⟨x10, rfl, w10⟩ := datI g10
  obtain ⟨a11, r11, g11, h12, e11⟩ := datL_cons h11
  obtain ⟨x11, rfl, w11⟩ := datI g11
  have z := datL_nil h12
  subst z; subst e11; subst e10; subst e9; subst e8; subst e7; subst e6; subst e5; subst e4; subst e3; subst e2; subst e1; subst e0
  exact ⟨⟨x0, x1, x2, x3, x4, x5, x6, x7, x8, x9, x10, x11⟩, rfl, ⟨l0, l1, l3, l4, l7, l8⟩, ⟨w0, w1, w2, w3, w4, w5, w6, w7, w8, w9, w10, w11⟩⟩
def tyEvent : Ty := .st [.int .i64, .int .i64, tyBox]
def rgEvent (d : Event) : Prop := rgI d.kind ∧ rgI d.n ∧ rgBox d.box
theorem datEvent {cs : List V} (h : Dat tyEvent cs) : ∃ x : Event, cs = eEvent x ∧ lnEvent x ∧ rgEvent x := by
  have h0 := dat_st h
  obtain ⟨a0, r0, g0, h1, e0⟩ := datL_cons h0
  obtain ⟨x0, rfl, w0⟩ := datI g0
  obtain ⟨a1, r1, g1, h2, e1⟩ := datL_cons h1
  obtain ⟨x1, rfl, w1⟩ := datI g1
  obtain ⟨a2, r2, g2, h3, e2⟩ := datL_cons h2
  obtain ⟨x2, rfl, l2, w2⟩ := datBox g2
  have z := datL_nil h3
  subst z; subst e2; subst e1; subst e0
  exact ⟨⟨x0, x1, x2⟩, rfl, l2, ⟨w0, w1, w2⟩⟩
theorem datEventS {cs : List V} (h : Dat (.sl tyEvent) cs) : ∃ xs : List Event, cs = [.sl 0 6 xs.length (xs.flatMap eEvent)] ∧ lnS lnEvent xs ∧ rgS rgEvent xs := by
  obtain ⟨ds, h1, h2, h3⟩ := datRow (f := eEvent) (p := fun x => lnEvent x ∧ rgEvent x) (fun cs h => datEvent h) h
  exact ⟨ds, h1, ⟨h2, fun j hj => (h3 _ (List.getElem_mem hj)).1⟩, fun x hx => (h3 x hx).2⟩

theorem argI {v : V} (h : ArgV (.int .i64) v) : ∃ n, v = I n ∧ rgI n := by
  obtain ⟨c, hd, rfl⟩ := h
  obtain ⟨n, e, w⟩ := datI hd
  cases e
  exact ⟨n, rfl, w⟩
theorem argB {v : V} (h : ArgV .bool v) : ∃ b, v = B b := by
  obtain ⟨c, hd, rfl⟩ := h
  obtain ⟨n, e⟩ := datB hd
  cases e
  exact ⟨n, rfl⟩
theorem argS {v : V} (h : ArgV .str v) : ∃ s : ByteArray, v = S s ∧ s.size ≤ maxLen := by
  obtain ⟨c, hd, rfl⟩ := h
  obtain ⟨n, e, w⟩ := datS hd
  cases e
  exact ⟨n, rfl, w⟩
theorem argInts {v : V} (h : ArgV (.sl (.int .i64)) v) : ∃ xs : List Int, v = .sl 1 1 xs.length (ints xs) ∧ lnInts xs ∧ rgInts xs := by
  obtain ⟨c, hd, rfl⟩ := h
  obtain ⟨xs, e, w⟩ := datInts hd
  cases e
  exact ⟨xs, rfl, w⟩
theorem argDeal {v : V} (h : ArgV tyDeal v) : ∃ x : Deal, v = arg (eDeal x) ∧ lnDeal x ∧ rgDeal x := by
  obtain ⟨cs, hd, rfl⟩ := h
  obtain ⟨x, rfl, w⟩ := datDeal hd
  exact ⟨x, rfl, w⟩
theorem argBox {v : V} (h : ArgV tyBox v) : ∃ x : Box, v = arg (eBox x) ∧ lnBox x ∧ rgBox x := by
  obtain ⟨cs, hd, rfl⟩ := h
  obtain ⟨x, rfl, w⟩ := datBox hd
  exact ⟨x, rfl, w⟩
theorem argBoxS {v : V} (h : ArgV (.sl tyBox) v) : ∃ xs : List Box, v = .sl 1 4 xs.length (xs.flatMap eBox) ∧ lnS lnBox xs ∧ rgS rgBox xs := by
  obtain ⟨c, hd, rfl⟩ := h
  obtain ⟨xs, e, w⟩ := datBoxS hd
  cases e
  exact ⟨xs, rfl, w⟩
theorem argDialed {v : V} (h : ArgV tyDialed v) : ∃ x : Dialed, v = arg (eDialed x) ∧ lnDialed x ∧ rgDialed x := by
  obtain ⟨cs, hd, rfl⟩ := h
  obtain ⟨x, rfl, w⟩ := datDialed hd
  exact ⟨x, rfl, w⟩
theorem argDialedS {v : V} (h : ArgV (.sl tyDialed) v) : ∃ xs : List Dialed, v = .sl 1 5 xs.length (xs.flatMap eDialed) ∧ lnS lnDialed xs ∧ rgS rgDialed xs := by
  obtain ⟨c, hd, rfl⟩ := h
  obtain ⟨xs, e, w⟩ := datDialedS hd
  cases e
  exact ⟨xs, rfl, w⟩
theorem argRollout {v : V} (h : ArgV tyRollout v) : ∃ x : Rollout, v = arg (eRollout x) ∧ lnRollout x ∧ rgRollout x := by
  obtain ⟨cs, hd, rfl⟩ := h
  obtain ⟨x, rfl, w⟩ := datRollout hd
  exact ⟨x, rfl, w⟩
theorem argEndpoint {v : V} (h : ArgV tyEndpoint v) : ∃ x : Endpoint, v = arg (eEndpoint x) ∧ lnEndpoint x ∧ rgEndpoint x := by
  obtain ⟨cs, hd, rfl⟩ := h
  obtain ⟨x, rfl, w⟩ := datEndpoint hd
  exact ⟨x, rfl, w⟩
theorem argEndpointS {v : V} (h : ArgV (.sl tyEndpoint) v) : ∃ xs : List Endpoint, v = .sl 1 4 xs.length (xs.flatMap eEndpoint) ∧ lnS lnEndpoint xs ∧ rgS rgEndpoint xs := by
  obtain ⟨c, hd, rfl⟩ := h
  obtain ⟨xs, e, w⟩ := datEndpointS hd
  cases e
  exact ⟨xs, rfl, w⟩
theorem argLogged {v : V} (h : ArgV tyLogged v) : ∃ x : Logged, v = arg (eLogged x) ∧ lnLogged x ∧ rgLogged x := by
  obtain ⟨cs, hd, rfl⟩ := h
  obtain ⟨x, rfl, w⟩ := datLogged hd
  exact ⟨x, rfl, w⟩
theorem argLoggedS {v : V} (h : ArgV (.sl tyLogged) v) : ∃ xs : List Logged, v = .sl 1 8 xs.length (xs.flatMap eLogged) ∧ lnS lnLogged xs ∧ rgS rgLogged xs := by
  obtain ⟨c, hd, rfl⟩ := h
  obtain ⟨xs, e, w⟩ := datLoggedS hd
  cases e
  exact ⟨xs, rfl, w⟩
theorem argWorld {v : V} (h : ArgV tyWorld v) : ∃ x : World, v = arg (eWorld x) ∧ lnWorld x ∧ rgWorld x := by
  obtain ⟨cs, hd, rfl⟩ := h
  obtain ⟨x, rfl, w⟩ := datWorld hd
  exact ⟨x, rfl, w⟩
theorem argEvent {v : V} (h : ArgV tyEvent v) : ∃ x : Event, v = arg (eEvent x) ∧ lnEvent x ∧ rgEvent x := by
  obtain ⟨cs, hd, rfl⟩ := h
  obtain ⟨x, rfl, w⟩ := datEvent hd
  exact ⟨x, rfl, w⟩
theorem argEventS {v : V} (h : ArgV (.sl tyEvent) v) : ∃ xs : List Event, v = .sl 1 6 xs.length (xs.flatMap eEvent) ∧ lnS lnEvent xs ∧ rgS rgEvent xs := by
  obtain ⟨c, hd, rfl⟩ := h
  obtain ⟨xs, e, w⟩ := datEventS hd
  cases e
  exact ⟨xs, rfl, w⟩
end Go.Eng.T

namespace Go.Eng.T
theorem szl_lt {n : Nat} {l : Int} (h : l < n) : szl n l = -1 := by unfold szl; rw [if_pos h]
theorem szl_ge {n : Nat} {l : Int} (h : ¬ l < n) : szl n l = l - n := by unfold szl; rw [if_neg h]
theorem mcL_sz {α : Type} {mc sz : α → Nat} (c : Nat) (h : ∀ x, mc x ≤ c * (1 + sz x)) (xs : List α) : mcL mc xs ≤ c * sumF sz xs := by
  induction xs with
  | nil => simp [mcL]
  | cons x r ih =>
    have := h x
    simp only [mcL, sumF, List.map_cons, List.sum_cons, List.length_cons] at *
    rw [Nat.mul_add] at *
    rw [Nat.mul_add] at *
    rw [Nat.mul_add]
    omega
theorem mc_szBoxS (xs : List Box) : mcL mcBox xs ≤ 2 * sumF szBox xs := mcL_sz 2 (fun x => by unfold mcBox szBox; omega) xs
theorem mc_szEndpoint (x : Endpoint) : mcEndpoint x ≤ 2 * (1 + szEndpoint x) := by have := mc_szBoxS x.path; unfold mcEndpoint szEndpoint; omega
theorem mc_szEndpointS (xs : List Endpoint) : mcL mcEndpoint xs ≤ 2 * sumF szEndpoint xs := mcL_sz 2 mc_szEndpoint xs
theorem mc_szDialedS (xs : List Dialed) : mcL mcDialed xs ≤ 3 * sumF szDialed xs := mcL_sz 3 (fun x => by unfold mcDialed szDialed szDeal; omega) xs
theorem mc_szLoggedS (xs : List Logged) : mcL mcLogged xs ≤ 6 * sumF szLogged xs := mcL_sz 6 (fun x => by unfold mcLogged szLogged szDialed szDeal; omega) xs
theorem mc_szEventS (xs : List Event) : mcL mcEvent xs ≤ 4 * sumF szEvent xs := mcL_sz 4 (fun x => by unfold mcEvent szEvent szBox; omega) xs
theorem mc_szWorld (x : World) : mcWorld x ≤ 6 * szWorld x := by
  have := mc_szEndpointS x.ends
  have := mc_szDialedS x.stage
  have := mc_szLoggedS x.log
  unfold mcWorld szWorld szRollout; omega
theorem mc_szBox (x : Box) : mcTBox x ≤ szBox x := by unfold mcTBox szBox; omega
theorem mc_szDialed (x : Dialed) : mcTDialed x ≤ szDialed x := by unfold mcTDialed szDialed szDeal; omega
theorem mc_szDeal (x : Deal) : mcDeal x ≤ szDeal x := by unfold mcDeal szDeal; omega
theorem mc_szEvent (x : Event) : mcTEvent x ≤ szEvent x := by unfold mcTEvent szEvent szBox; omega
theorem mc_szRollout (x : Rollout) : mcRollout x ≤ szRollout x := by unfold mcRollout szRollout; omega
theorem mc_szEndpoint' (x : Endpoint) : mcTEndpoint x ≤ 2 * szEndpoint x := by have := mc_szBoxS x.path; unfold mcTEndpoint szEndpoint; omega
/-- sizes of a world's parts -/
theorem world_log {w : World} (h : szWorld w ≤ 1048576) : w.log.length ≤ 1048576 := by have := size_len (f := szLogged) (xs := w.log); unfold szWorld at h; omega
theorem world_ends {w : World} (h : szWorld w ≤ 1048576) : w.ends.length ≤ 1048576 := by have := size_len (f := szEndpoint) (xs := w.ends); unfold szWorld at h; omega
theorem world_stage {w : World} (h : szWorld w ≤ 1048576) : w.stage.length ≤ 1048576 := by have := size_len (f := szDialed) (xs := w.stage); unfold szWorld at h; omega
theorem beqI (a b : Int) : (a == b) = decide (a = b) := by by_cases h : a = b <;> simp [h]
end Go.Eng.T

namespace Go.Eng.T
set_option maxRecDepth 20000

abbrev InR (a b c : Int) : Prop := b ≤ a ∧ a ≤ c
def signalOf (g b l p : Int) : Int :=
  if ¬ InR g 0 10000 ∨ ¬ InR b 0 10000 ∨ ¬ InR l 1 10000 ∨ ¬ InR p 0 100 then 0
  else if 100 * b > p * l ∧ 100 * b > p * (g + b) then 2
  else if g + b < l then 0
  else if 100 * b ≤ p * (g + b) then 1
  else 2
abbrev SignalOfS (R : Rel) : Prop := ∀ g b l p : Int, R [I g, I b, I l, I p] [] (I (signalOf g b l p)) []
theorem mul_small {p x : Int} (h1 : 0 ≤ p) (h2 : p ≤ 100) (h3 : 0 ≤ x) (h4 : x ≤ 20000) : IntKind.i64.wrap (p * x) = p * x := by
  have a1 : 0 ≤ p * x := Int.mul_nonneg h1 h3
  have a2 : p * x ≤ 100 * 20000 := Int.mul_le_mul h2 h4 h3 (by omega)
  exact wrap_id (by omega) (by omega)
end Go.Eng.T

namespace Go.Eng.T
set_option maxRecDepth 20000

/-- where p holds first (from i on), or -1 -/
def idxP {α : Type} (p : α → Bool) : List α → Int → Int
  | [], _ => -1
  | x :: r, i => if p x then i else idxP p r (i + 1)
theorem idxP_drop {α : Type} {p : α → Bool} {xs : List α} {j : Nat} (h : j < xs.length) : idxP p (xs.drop j) j = if p xs[j] then (j : Int) else idxP p (xs.drop (j + 1)) ((j : Int) + 1) := by
  rw [List.drop_eq_getElem_cons h]; rfl
theorem idxP_end {α : Type} {p : α → Bool} {xs : List α} {j : Nat} (h : xs.length ≤ j) : idxP p (xs.drop j) j = -1 := by rw [List.drop_eq_nil_of_le h]; rfl
theorem idxP_ge {α : Type} {p : α → Bool} : ∀ {xs : List α} {i : Int}, 0 ≤ i → (0 ≤ idxP p xs i) = (xs.any p = true)
  | [], i, _ => by simp [idxP]
  | x :: r, i, h => by
    by_cases hp : p x = true
    · simp [idxP, hp, h]
    · have := idxP_ge (p := p) (xs := r) (i := i + 1) (by omega)
      simp [idxP, hp] at *
      exact this

/-- what is captured goes over as it is -/
def CapOk (caps : List V) : Prop := (∀ (H : Hp) (n : Nat), ownArgs H n (caps.map fun v => (false, v)) = some []) ∧ (∀ (H Hr : Hp) (n : Nat), callArgs H Hr n (caps.map fun v => (false, v)) = some caps) ∧ ∀ H : Hp, ro2L H caps = some caps
theorem capOk_nil : CapOk [] := ⟨fun _ _ => rfl, fun _ _ _ => rfl, fun _ => rfl⟩
theorem capOk_cons {v : V} {r : List V} (hv : ∀ H, ro H v = some v) (hv2 : ∀ H, ro2 H v = some v) (h : CapOk r) : CapOk (v :: r) :=
  ⟨fun H n => h.1 H n, fun H Hr n => by simp only [List.map_cons, callArgs, hv, h.2.1], fun H => by simp only [ro2L, hv2, h.2.2]⟩
theorem capOk_int {a : Int} {r : List V} (h : CapOk r) : CapOk (.rptr 1 [.sc (.int .i64 a)] 0 :: r) := capOk_cons (fun H => by simp) (fun H => by simp) h

abbrev IndexFuncS (D : Dn) (R : Rel) : Prop := ∀ (xs : List Int) (g : Nat) (caps : List V) (p : Int → Bool), xs.length ≤ maxLen → CapOk caps → (∀ x : Int, D g (I x :: caps) [] (B (p x)) []) →
  R [.sl 1 1 xs.length (ints xs), .fn g caps] [] (I (idxP p xs 0)) []
theorem IndexFunc_b (D : Dn) : IndexFuncS D (Body D sslices_IndexFunc___int_int_) := by
  intro xs g caps p hl hc hp
  unfold maxLen at hl
  simp -implicitDefEqProofs
  refine swp_loop (fun k s => ∃ j, j + k = xs.length ∧ idxP p xs 0 = idxP p (xs.drop j) j ∧ s = ⟨[.sl 1 1 xs.length (ints xs), .fn g caps, .undef, .undef, .sc (.int .i64 xs.length), .sc (.int .i64 j), .undef, .undef], []⟩) ?_ xs.length _ ⟨0, by simp, by simp, by simp⟩
  intro k s ⟨j, hj, hi, hs⟩
  subst hs
  by_cases hjn : j < xs.length
  · have hw : IntKind.i64.wrap ((j : Int) + 1) = (j + 1 : Nat) := by rw [wrap_id (by omega) (by omega)]; simp
    rw [idxP_drop hjn] at hi
    simp -implicitDefEqProofs [hjn, hc.1, hc.2.1]
    refine callQ_of (hp xs[j]) ?_
    by_cases he : p xs[j] = true
    · rw [if_pos he] at hi
      simp -implicitDefEqProofs [he, hi]
    · rw [if_neg he] at hi
      simp -implicitDefEqProofs [he]
      exact ⟨k - 1, by omega, j + 1, by omega, by simpa using hi, by simp [hw]⟩
  · rw [idxP_end (by omega)] at hi
    simp -implicitDefEqProofs [hjn, hi]
abbrev ContainsFuncS (D : Dn) (R : Rel) : Prop := ∀ (xs : List Int) (g : Nat) (caps : List V) (p : Int → Bool), xs.length ≤ maxLen → CapOk caps → (∀ x : Int, D g (I x :: caps) [] (B (p x)) []) →
  R [.sl 1 1 xs.length (ints xs), .fn g caps] [] (B (xs.any p)) []
theorem ContainsFunc_b (D : Dn) (hI : IndexFuncS D (D gslices_IndexFunc___int_int_)) : ContainsFuncS D (Body D sslices_ContainsFunc___int_int_) := by
  intro xs g caps p hl hc hp
  simp -implicitDefEqProofs [hc.2.2]
  refine callQ_of (hI xs g caps p hl hc hp) ?_
  have e : decide (0 ≤ idxP p xs 0) = xs.any p := by rw [Bool.eq_iff_iff]; simp only [decide_eq_true_eq]; rw [idxP_ge (by omega)]
  simp -implicitDefEqProofs [e]

def allIn (xs : List Int) (lo hi : Int) : Bool := xs.all fun x => decide (InR x lo hi)
abbrev areNumbersS (R : Rel) : Prop := ∀ (xs : List Int) (lo hi : Int), xs.length ≤ maxLen → R [.sl 1 1 xs.length (ints xs), I lo, I hi] [] (B (allIn xs lo hi)) []
abbrev areNumbers1S (R : Rel) : Prop := ∀ (x lo hi : Int), R [I x, .rptr 1 [I lo] 0, .rptr 1 [I hi] 0] [] (B (!decide (InR x lo hi))) []
end Go.Eng.T

namespace Go.Eng.T
set_option maxRecDepth 20000
abbrev IndexFuncEndpointS (D : Dn) (R : Rel) : Prop := ∀ (xs : List Endpoint) (g : Nat) (caps : List V) (p : Endpoint → Bool), xs.length ≤ maxLen → CapOk caps → (∀ (j : Nat) (h : j < xs.length), D g (arg (eEndpoint xs[j]) :: caps) [] (B (p xs[j])) []) → R [.sl 1 4 xs.length (xs.flatMap eEndpoint), .fn g caps] [] (I (idxP p xs 0)) []
abbrev ContainsFuncEndpointS (D : Dn) (R : Rel) : Prop := ∀ (xs : List Endpoint) (g : Nat) (caps : List V) (p : Endpoint → Bool), xs.length ≤ maxLen → CapOk caps → (∀ (j : Nat) (h : j < xs.length), D g (arg (eEndpoint xs[j]) :: caps) [] (B (p xs[j])) []) → R [.sl 1 4 xs.length (xs.flatMap eEndpoint), .fn g caps] [] (B (xs.any p)) []
abbrev IndexFuncLoggedS (D : Dn) (R : Rel) : Prop := ∀ (xs : List Logged) (g : Nat) (caps : List V) (p : Logged → Bool), xs.length ≤ maxLen → CapOk caps → (∀ (j : Nat) (h : j < xs.length), D g (arg (eLogged xs[j]) :: caps) [] (B (p xs[j])) []) → R [.sl 1 8 xs.length (xs.flatMap eLogged), .fn g caps] [] (I (idxP p xs 0)) []
theorem IndexFuncLogged_b (D : Dn) : IndexFuncLoggedS D (Body D sslices_IndexFunc___impl_Logged_impl_Logged_) := by
  intro xs g caps p hl hc hp
  unfold maxLen at hl
  simp -implicitDefEqProofs
  refine swp_loop (fun k s => ∃ j, j + k = xs.length ∧ idxP p xs 0 = idxP p (xs.drop j) j ∧ s = ⟨[.sl 1 8 xs.length (xs.flatMap eLogged), .fn g caps, .undef, .undef, .sc (.int .i64 xs.length), .sc (.int .i64 j), .undef, .undef], []⟩) ?_ xs.length _ ⟨0, by simp, by simp, by simp⟩
  intro k s ⟨j, hj, hi, hs⟩
  subst hs
  by_cases hjn : j < xs.length
  · have hw : IntKind.i64.wrap ((j : Int) + 1) = (j + 1 : Nat) := by rw [wrap_id (by omega) (by omega)]; simp
    rw [idxP_drop hjn] at hi
    simp -implicitDefEqProofs [hjn, hc.1, hc.2.1]
    refine callQ_of (hp j hjn) ?_
    by_cases he : p xs[j] = true
    · rw [if_pos he] at hi
      simp -implicitDefEqProofs [he, hi]
    · rw [if_neg he] at hi
      simp -implicitDefEqProofs [he]
      exact ⟨k - 1, by omega, j + 1, by omega, by simpa using hi, by simp [hw]⟩
  · rw [idxP_end (by omega)] at hi
    simp -implicitDefEqProofs [hjn, hi]
abbrev ContainsFuncLoggedS (D : Dn) (R : Rel) : Prop := ∀ (xs : List Logged) (g : Nat) (caps : List V) (p : Logged → Bool), xs.length ≤ maxLen → CapOk caps → (∀ (j : Nat) (h : j < xs.length), D g (arg (eLogged xs[j]) :: caps) [] (B (p xs[j])) []) → R [.sl 1 8 xs.length (xs.flatMap eLogged), .fn g caps] [] (B (xs.any p)) []
theorem ContainsFuncLogged_b (D : Dn) (hI : IndexFuncLoggedS D (D gslices_IndexFunc___impl_Logged_impl_Logged_)) : ContainsFuncLoggedS D (Body D sslices_ContainsFunc___impl_Logged_impl_Logged_) := by
  intro xs g caps p hl hc hp
  simp -implicitDefEqProofs [hc.2.2]
  refine callQ_of (hI xs g caps p hl hc hp) ?_
  have e : decide (0 ≤ idxP p xs 0) = xs.any p := by rw [Bool.eq_iff_iff]; simp only [decide_eq_true_eq]; rw [idxP_ge (by omega)]
  simp -implicitDefEqProofs [e]
abbrev IndexFuncBoxS (D : Dn) (R : Rel) : Prop := ∀ (xs : List Box) (g : Nat) (caps : List V) (p : Box → Bool), xs.length ≤ maxLen → CapOk caps → (∀ (j : Nat) (h : j < xs.length), D g (arg (eBox xs[j]) :: caps) [] (B (p xs[j])) []) → R [.sl 1 4 xs.length (xs.flatMap eBox), .fn g caps] [] (I (idxP p xs 0)) []
abbrev ContainsFuncBoxS (D : Dn) (R : Rel) : Prop := ∀ (xs : List Box) (g : Nat) (caps : List V) (p : Box → Bool), xs.length ≤ maxLen → CapOk caps → (∀ (j : Nat) (h : j < xs.length), D g (arg (eBox xs[j]) :: caps) [] (B (p xs[j])) []) → R [.sl 1 4 xs.length (xs.flatMap eBox), .fn g caps] [] (B (xs.any p)) []
end Go.Eng.T

namespace Go.Eng.T
set_option maxRecDepth 20000

theorem sz_up {xs : List Logged} {j : Nat} (h : j < xs.length) : xs[j].dialed.up.length ≤ sumF szLogged xs := by
  have := size_at (f := szLogged) h
  simp only [szLogged, szDialed] at this ⊢
  omega
theorem world_up {w : World} (h : szWorld w ≤ 1048576) {j : Nat} (hj : j < w.log.length) : w.log[j].dialed.up.length ≤ maxLen := by
  have := sz_up hj
  unfold szWorld at h
  unfold maxLen; omega

def hurtL (w : World) (l : Logged) : Bool := l.on && badD w.rollout.version l.dialed
abbrev HurtS (R : Rel) : Prop := ∀ (w : World) (l : Logged), l.dialed.up.length ≤ maxLen → R [arg (eWorld w), arg (eLogged l)] [] (B (hurtL w l)) []
abbrev IsCountedS (R : Rel) : Prop := ∀ (w : World), szWorld w ≤ 1048576 → R [arg (eWorld w)] [] (B (decide (w.hurt = cntF (hurtL w) w.log))) []
end Go.Eng.T

namespace Go.Eng.T
set_option maxRecDepth 20000

def isReserved (t : Int) : Bool := decide (InR t 0 255) && decide (t.tmod 16 = 10)
abbrev IsReservedS (R : Rel) : Prop := ∀ t : Int, R [I t] [] (B (isReserved t)) []
theorem sIsReserved_b (D : Dn) (hI : InS (D gspec_l1In)) : IsReservedS (Body D sspec_IsReserved) := by
  intro t
  simp -implicitDefEqProofs
  refine callQ_of (hI _ _ _) ?_
  by_cases h : InR t 0 255
  · simp -implicitDefEqProofs [h, isReserved, beqI]
  · simp -implicitDefEqProofs [h, isReserved]
theorem iIsReserved_b (D : Dn) (hI : InS (D gimpl_InRange)) : IsReservedS (Body D simpl_IsReserved) := by
  intro t
  simp -implicitDefEqProofs
  refine callQ_of (hI _ _ _) ?_
  by_cases h : InR t 0 255
  · simp -implicitDefEqProofs [h, isReserved, beqI]
  · simp -implicitDefEqProofs [h, isReserved]

abbrev IsHardenedS (R : Rel) : Prop := ∀ xs : List Int, xs.length ≤ maxLen → R [.sl 1 1 xs.length (ints xs)] [] (B (xs.any isReserved)) []
theorem any_here {α : Type} {p : α → Bool} {xs : List α} {j : Nat} (h : j < xs.length) (hp : p xs[j] = true) : xs.any p = true := List.any_eq_true.2 ⟨_, List.getElem_mem h, hp⟩
theorem any_step {α : Type} {p : α → Bool} {xs : List α} {j : Nat} (h : j < xs.length) : (xs.take (j + 1)).any p = ((xs.take j).any p || p xs[j]) := by
  have e : xs.take (j + 1) = xs.take j ++ [xs[j]] := by simp
  rw [e, List.any_append]; simp
theorem any_none {α : Type} {p : α → Bool} {xs : List α} {j : Nat} (h : xs.length ≤ j) (ha : (xs.take j).any p = false) : xs.any p = false := by rwa [List.take_of_length_le h] at ha
theorem sIsHardened_b (D : Dn) (hR : IsReservedS (D gspec_IsReserved)) : IsHardenedS (Body D sspec_IsHardened) := by
  intro xs hl
  unfold maxLen at hl
  simp -implicitDefEqProofs
  refine swp_loop (fun k s => ∃ j, j + k = xs.length ∧ (xs.take j).any isReserved = false ∧ s = ⟨[.sl 1 1 xs.length (ints xs), .undef, .sc (.int .i64 j), .undef, .undef], []⟩) ?_ xs.length _ ⟨0, by simp, by simp, by simp⟩
  intro k s ⟨j, hj, hp, hs⟩
  subst hs
  by_cases hjn : j < xs.length
  · have hw : IntKind.i64.wrap ((j : Int) + 1) = (j + 1 : Nat) := by rw [wrap_id (by omega) (by omega)]; simp
    simp -implicitDefEqProofs [hjn]
    refine callQ_of (hR _) ?_
    by_cases h1 : isReserved xs[j] = true
    · have e := any_here hjn h1
      generalize xs.any isReserved = b at e
      subst e
      simp -implicitDefEqProofs [h1]
    · simp -implicitDefEqProofs [h1]
      exact ⟨k - 1, by omega, j + 1, by omega, by have := any_step (p := isReserved) hjn; rw [hp] at this; simpa [h1] using this, by simp [hw]⟩
  · have e := any_none (by omega) hp
    generalize xs.any isReserved = b at e
    subst e
    simp -implicitDefEqProofs [hjn]
theorem iIsHardened_b (D : Dn) (hR : IsReservedS (D gimpl_IsReserved)) (hC : ContainsFuncS D (D gslices_ContainsFunc___int_int_)) : IsHardenedS (Body D simpl_IsHardened) := by
  intro xs hl
  simp -implicitDefEqProofs
  refine callQ_of (hC xs 279 _ isReserved hl capOk_nil (fun x => hR x)) ?_
  generalize xs.any isReserved = b
  simp -implicitDefEqProofs

def drunkL (l : Logged) : Bool := l.dialed.deal.ok && (l.dialed.deal.tags.any isReserved || !decide (InR l.dialed.deal.version 1 9))
abbrev IsSoberS (R : Rel) : Prop := ∀ w : World, szWorld w ≤ 1048576 → R [arg (eWorld w)] [] (B (!w.log.any drunkL)) []
theorem world_dtags {w : World} (h : szWorld w ≤ 1048576) {j : Nat} (hj : j < w.log.length) : w.log[j].dialed.deal.tags.length ≤ maxLen := by
  have := size_at (f := szLogged) hj
  have e : szLogged w.log[j] = w.log[j].dialed.deal.tags.length + w.log[j].dialed.up.length := rfl
  unfold szWorld at h
  unfold maxLen; omega
theorem sIsSober_b (D : Dn) (hH : IsHardenedS (D gspec_IsHardened)) (hI : InS (D gspec_l1In)) : IsSoberS (Body D sspec_IsSober) := by
  intro w hsz
  have hl := world_log hsz
  simp -implicitDefEqProofs
  refine swp_loop (fun k s => ∃ j o1, j + k = w.log.length ∧ (w.log.take j).any drunkL = false ∧ s = ⟨[.undef, .ptr 0 0, .undef, .sc (.int .i64 j), .undef, .undef, .undef], [.var ((eWorld w).map (roCell 1)), o1]⟩) ?_ w.log.length _ ⟨0, .free, by simp, by simp, by simp⟩
  intro k s ⟨j, o1, hj, hp, hs⟩
  subst hs
  by_cases hjn : j < w.log.length
  · have hw : IntKind.i64.wrap ((j : Int) + 1) = (j + 1 : Nat) := by rw [wrap_id (by omega) (by omega)]; simp
    have hst := any_step (p := drunkL) hjn
    rw [hp, Bool.false_or] at hst
    by_cases h1 : w.log[j].dialed.deal.ok = true
    rotate_left
    · simp -implicitDefEqProofs [hjn, h1]
      exact ⟨k - 1, by omega, j + 1, by omega, by simpa [drunkL, h1] using hst, by simp [hw]⟩
    simp -implicitDefEqProofs [hjn, h1]
    refine callQ_of (hH _ (world_dtags hsz hjn)) ?_
    by_cases h2 : w.log[j].dialed.deal.tags.any isReserved = true
    · have e := any_here (p := drunkL) hjn (by unfold drunkL; rw [h1, h2]; rfl)
      generalize w.log.any drunkL = b at e
      generalize w.log[j].dialed.deal.tags.any isReserved = c at h2
      subst e; subst h2
      simp -implicitDefEqProofs
    have h2' : w.log[j].dialed.deal.tags.any isReserved = false := by simpa only [Bool.not_eq_true] using h2
    have hd : drunkL w.log[j] = !decide (InR w.log[j].dialed.deal.version 1 9) := by unfold drunkL; rw [h1, h2']; rfl
    generalize w.log[j].dialed.deal.tags.any isReserved = c at h2'
    subst h2'
    simp -implicitDefEqProofs
    refine callQ_of (hI _ _ _) ?_
    by_cases h3 : InR w.log[j].dialed.deal.version 1 9
    · simp -implicitDefEqProofs [h3]
      exact ⟨k - 1, by omega, j + 1, by omega, by have := hst; rw [hd] at this; simpa [h3] using this, by simp [hw]⟩
    · have e := any_here (p := drunkL) hjn (by rw [hd]; simp [h3])
      generalize w.log.any drunkL = b at e
      subst e
      simp -implicitDefEqProofs [h3]
  · have e := any_none (by omega) hp
    generalize w.log.any drunkL = b at e
    subst e
    simp -implicitDefEqProofs [hjn]
abbrev IsSober1S (R : Rel) : Prop := ∀ l : Logged, l.dialed.deal.tags.length ≤ maxLen → R [arg (eLogged l)] [] (B (drunkL l)) []
theorem IsSober1_b (D : Dn) (hH : IsHardenedS (D gimpl_IsHardened)) (hI : InS (D gimpl_InRange)) : IsSober1S (Body D simpl_IsSober_1) := by
  intro l hl
  by_cases h1 : l.dialed.deal.ok = true
  rotate_left
  · simp -implicitDefEqProofs [h1, drunkL]
  simp -implicitDefEqProofs [h1]
  refine callQ_of (hH _ hl) ?_
  unfold drunkL
  rw [h1]
  generalize l.dialed.deal.tags.any isReserved = c
  cases c
  rotate_left
  · simp -implicitDefEqProofs
  simp -implicitDefEqProofs
  refine callQ_of (hI _ _ _) ?_
  simp -implicitDefEqProofs
theorem iIsSober_b (D : Dn) (h1 : IsSober1S (D gimpl_IsSober_1)) (hC : ContainsFuncLoggedS D (D gslices_ContainsFunc___impl_Logged_impl_Logged_)) : IsSoberS (Body D simpl_IsSober) := by
  intro w hsz
  simp -implicitDefEqProofs
  refine callQ_of (hC w.log 247 _ drunkL (by have := world_log hsz; unfold maxLen; omega) capOk_nil (fun j hj => h1 _ (world_dtags hsz hj))) ?_
  generalize w.log.any drunkL = b
  simp -implicitDefEqProofs
end Go.Eng.T

namespace Go.Eng.T

theorem nums_push : ∀ (n : Nat) (k : Int), nums n k ++ [k + n] = nums (n + 1) k
  | 0, k => by simp [nums]
  | n + 1, k => by
    have := nums_push n (k + 1)
    simp only [nums, List.cons_append]
    rw [show k + ((n + 1 : Nat) : Int) = k + 1 + (n : Int) by omega, this]
    rfl
theorem numsJ_set {xs : List Int} {k : Int} {j : Nat} (h : j < xs.length) : (nums j k ++ xs.drop j).set j (k + j) = nums (j + 1) k ++ xs.drop (j + 1) := by
  rw [List.set_append_right _ _ (by simp), nums_len, Nat.sub_self, List.drop_eq_getElem_cons h, List.set_cons_zero, ← nums_push, List.append_assoc]
  rfl

abbrev markIntSS (R : Rel) : Prop := ∀ (xs : List Int) (k : Int), 0 ≤ k → k + xs.length ≤ 4611686018427387904 → R [.arr 0, I k] [.arr 1 0 xs.length (ints xs)] (I (k + xs.length)) [.arr 1 0 xs.length (ints (nums xs.length k))]
abbrev heldIntSS (R : Rel) : Prop := ∀ (n : Nat) (k : Int), 0 ≤ k → k + n ≤ 4611686018427387904 → R [.sl 1 1 n (ints (nums n k)), I k] [] (I (k + n)) []
end Go.Eng.T

namespace Go.Eng.T
abbrev markBoxSS (R : Rel) : Prop := ∀ (xs : List Box) (k : Int), 0 ≤ k → k + mcL mcBox xs ≤ 4611686018427387904 → R [.arr 0, I k] [.arr 4 0 xs.length (xs.flatMap eBox)] (I (k + mcL mcBox xs)) [.arr 4 0 xs.length ((mkL mcBox mkBox xs k).flatMap eBox)]
abbrev heldBoxSS (R : Rel) : Prop := ∀ (xs : List Box) (k : Int), 0 ≤ k → k + mcL mcBox xs ≤ 4611686018427387904 → R [.sl 1 4 xs.length ((mkL mcBox mkBox xs k).flatMap eBox), I k] [] (I (k + mcL mcBox xs)) []
abbrev markEndpointSS (R : Rel) : Prop := ∀ (xs : List Endpoint) (k : Int), 0 ≤ k → k + mcL mcEndpoint xs ≤ 4611686018427387904 → R [.arr 0, I k] [.arr 4 0 xs.length (xs.flatMap eEndpoint)] (I (k + mcL mcEndpoint xs)) [.arr 4 0 xs.length ((mkL mcEndpoint mkEndpoint xs k).flatMap eEndpoint)]
abbrev heldEndpointSS (R : Rel) : Prop := ∀ (xs : List Endpoint) (k : Int), 0 ≤ k → k + mcL mcEndpoint xs ≤ 4611686018427387904 → R [.sl 1 4 xs.length ((mkL mcEndpoint mkEndpoint xs k).flatMap eEndpoint), I k] [] (I (k + mcL mcEndpoint xs)) []
end Go.Eng.T

namespace Go.Eng.T
set_option maxRecDepth 20000
abbrev markDialedSS (R : Rel) : Prop := ∀ (xs : List Dialed) (k : Int), 0 ≤ k → k + mcL mcDialed xs ≤ 4611686018427387904 → R [.arr 0, I k] [.arr 5 0 xs.length (xs.flatMap eDialed)] (I (k + mcL mcDialed xs)) [.arr 5 0 xs.length ((mkL mcDialed mkDialed xs k).flatMap eDialed)]
abbrev heldDialedSS (R : Rel) : Prop := ∀ (xs : List Dialed) (k : Int), 0 ≤ k → k + mcL mcDialed xs ≤ 4611686018427387904 → R [.sl 1 5 xs.length ((mkL mcDialed mkDialed xs k).flatMap eDialed), I k] [] (I (k + mcL mcDialed xs)) []
abbrev markLoggedSS (R : Rel) : Prop := ∀ (xs : List Logged) (k : Int), 0 ≤ k → k + mcL mcLogged xs ≤ 4611686018427387904 → R [.arr 0, I k] [.arr 8 0 xs.length (xs.flatMap eLogged)] (I (k + mcL mcLogged xs)) [.arr 8 0 xs.length ((mkL mcLogged mkLogged xs k).flatMap eLogged)]
abbrev heldLoggedSS (R : Rel) : Prop := ∀ (xs : List Logged) (k : Int), 0 ≤ k → k + mcL mcLogged xs ≤ 4611686018427387904 → R [.sl 1 8 xs.length ((mkL mcLogged mkLogged xs k).flatMap eLogged), I k] [] (I (k + mcL mcLogged xs)) []
end Go.Eng.T

namespace Go.Eng.T
set_option maxRecDepth 20000
abbrev markRolloutS (R : Rel) : Prop := ∀ (x : Rollout) (k : Int), 0 ≤ k → k + mcRollout x ≤ 4611686018427387904 → R [.agg [.sc (.int .i64 x.version), .arr 0, .sc (.int .i64 x.pos), .sc (.bool x.off)], I k] [.arr 1 0 x.stages.length (ints (x.stages))] (I (k + mcRollout x)) [.arr 1 0 x.stages.length (ints ((mkRollout x k).stages))]
abbrev heldRolloutS (R : Rel) : Prop := ∀ (x : Rollout) (k : Int), 0 ≤ k → k + mcRollout x ≤ 4611686018427387904 → R [arg (eRollout (mkRollout x k)), I k] [] (I (k + mcRollout x)) []
abbrev markWorldS (R : Rel) : Prop := ∀ (x : World) (k : Int), 0 ≤ k → k + mcWorld x ≤ 4611686018427387904 → R [.agg [.arr 0, .arr 1, .sc (.int .i64 x.key), .arr 2, .sc (.int .i64 x.rollout.version), .arr 3, .sc (.int .i64 x.rollout.pos), .sc (.bool x.rollout.off), .sc (.int .i64 x.least), .sc (.int .i64 x.percent), .arr 4, .arr 5, .sc (.int .i64 x.now), .sc (.int .i64 x.hurt), .sc (.int .i64 x.reached)], I k] [.arr 1 0 x.server.length (ints (x.server)), .arr 1 0 x.tags.length (ints (x.tags)), .arr 4 0 x.ends.length ((x.ends).flatMap eEndpoint), .arr 1 0 x.rollout.stages.length (ints (x.rollout.stages)), .arr 5 0 x.stage.length ((x.stage).flatMap eDialed), .arr 8 0 x.log.length ((x.log).flatMap eLogged)] (I (k + mcWorld x)) [.arr 1 0 x.server.length (ints ((mkWorld x k).server)), .arr 1 0 x.tags.length (ints ((mkWorld x k).tags)), .arr 4 0 x.ends.length (((mkWorld x k).ends).flatMap eEndpoint), .arr 1 0 x.rollout.stages.length (ints ((mkWorld x k).rollout.stages)), .arr 5 0 x.stage.length (((mkWorld x k).stage).flatMap eDialed), .arr 8 0 x.log.length (((mkWorld x k).log).flatMap eLogged)]
abbrev heldWorldS (R : Rel) : Prop := ∀ (x : World) (k : Int), 0 ≤ k → k + mcWorld x ≤ 4611686018427387904 → R [arg (eWorld (mkWorld x k)), I k] [] (I (k + mcWorld x)) []
end Go.Eng.T

namespace Go.Eng.T
set_option maxRecDepth 20000
set_option maxHeartbeats 2000000
abbrev FnExactIsSoberS (R : Rel) : Prop := ∀ (aW : World), lnWorld aW → rgWorld aW → R [arg (eWorld aW)] [] (B true) []
theorem FnExactIsSober_b (D : Dn) (hs : IsSoberS (D gspec_IsSober)) (hi : IsSoberS (D gimpl_IsSober)) (hszWorld : szWorldS (D glaws_szWorld)) (htoWorld : toWorldS (D glaws_toWorld)) (heqWorld : eqWorldS (D glaws_eqWorld)) : FnExactIsSoberS (Body D slaws_FnExactIsSober) := by
  intro aW l_aW w_aW
  simp -implicitDefEqProofs []
  refine callQ_of (hszWorld aW ((1048576 : Int)) (by omega) (by omega) l_aW) ?_
  by_cases g1 : (1048576 : Int) < ((szWorld aW : Nat) : Int)
  · simp -implicitDefEqProofs [szl_lt g1]
  have p1 : ¬ (1048576 : Int) - ((szWorld aW : Nat) : Int) < 0 := by omega
  simp -implicitDefEqProofs [szl_ge g1, p1]
  have hs' := hs aW (by omega)
  have hi' := hi aW (by omega)
  refine callQ_of (htoWorld aW (by omega)) ?_
  simp -implicitDefEqProofs [szl_ge g1, p1]
  refine callQ_of (hs') ?_
  simp -implicitDefEqProofs [szl_ge g1, p1]
  refine callQ_of (htoWorld aW (by omega)) ?_
  simp -implicitDefEqProofs [szl_ge g1, p1]
  refine callQ_of (hi') ?_
  simp -implicitDefEqProofs [szl_ge g1, p1]
  refine callQ_of (htoWorld aW (by omega)) ?_
  simp -implicitDefEqProofs [szl_ge g1, p1]
  refine callQ_of (heqWorld aW aW (by omega) (by omega)) ?_
  simp -implicitDefEqProofs [szl_ge g1, p1]
end Go.Eng.T

