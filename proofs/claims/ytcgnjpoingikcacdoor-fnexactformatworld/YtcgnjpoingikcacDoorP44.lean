/- Own work: part 44 of the proof of FnExactFormatWorld. -/
import Derived.Test.YtcgnjpoingikcacDoorP43
import Derived.Lib.ItoaNum
import Derived.Lib.Join
import Derived.Below
import Derived.Sort.Grow
import Derived.Deep.Draws
import Derived.Lib.LaidTab
import Derived.Shelf.Strings.OnBuilder
import Derived.Shelf.Strconv.Itoa0
import Derived.Shelf.Strconv.Itoa1
import Derived.Shelf.LaysM
import Derived.Shelf.Strconv.Itoa2
import Derived.Shelf.Strconv.Itoa3
import Derived.Test.YtcgnjpoingikcacDoorProg
set_option linter.unusedSimpArgs false
set_option linter.unusedVariables false
namespace Go.Eng.T

/-- the numbers from k on -/
def nums : Nat → Int → List Int
  | 0, _ => []
  | n + 1, k => k :: nums n (k + 1)
@[simp] theorem nums_len : ∀ (n : Nat) (k : Int), (nums n k).length = n
  | 0, _ => rfl
  | n + 1, k => by simp [nums, nums_len n]
theorem nums_get : ∀ (n : Nat) (k : Int) (j : Nat) (h : j < (nums n k).length), (nums n k)[j] = k + j
  | 0, k, j, h => by simp [nums] at h
  | n + 1, k, 0, h => by simp [nums]
  | n + 1, k, j + 1, h => by
    simp only [nums, List.getElem_cons_succ]
    rw [nums_get n (k + 1) j (by simpa [nums] using h)]
    simp; omega

/-- a row marked element by element -/
def mkL {α : Type} (mc : α → Nat) (mk : α → Int → α) : List α → Int → List α
  | [], _ => []
  | x :: r, k => mk x k :: mkL mc mk r (k + mc x)
def mcL {α : Type} (mc : α → Nat) (xs : List α) : Nat := (xs.map mc).sum
section
variable {α : Type} {mc : α → Nat} {mk : α → Int → α}
@[simp] theorem mkL_len : ∀ (xs : List α) (k : Int), (mkL mc mk xs k).length = xs.length
  | [], _ => rfl
  | x :: r, k => by simp [mkL, mkL_len r]
theorem mkL_get : ∀ (xs : List α) (k : Int) (j : Nat) (h : j < xs.length), (mkL mc mk xs k)[j]'(by simpa using h) = mk xs[j] (k + (mcL mc (xs.take j) : Nat))
  | [], k, j, h => by simp at h
  | x :: r, k, 0, h => by simp [mkL, mcL]
  | x :: r, k, j + 1, h => by
    simp only [mkL, List.getElem_cons_succ]
    rw [mkL_get r (k + mc x) j (by simpa using h)]
    simp [mcL]; congr 1; omega
theorem mkL_append (ys : List α) : ∀ (xs : List α) (k : Int), mkL mc mk (xs ++ ys) k = mkL mc mk xs k ++ mkL mc mk ys (k + (mcL mc xs : Nat))
  | [], k => by simp [mkL, mcL]
  | x :: r, k => by
    simp only [List.cons_append, mkL, mkL_append ys r]
    simp [mcL]; congr 1; omega
/-- under way -/
def mkJ (mc : α → Nat) (mk : α → Int → α) (xs : List α) (k : Int) (j : Nat) : List α := mkL mc mk (xs.take j) k ++ xs.drop j
theorem mkJ_zero {xs : List α} {k : Int} : mkJ mc mk xs k 0 = xs := by simp [mkJ, mkL]
theorem mkJ_all {xs : List α} {k : Int} {j : Nat} (h : xs.length ≤ j) : mkJ mc mk xs k j = mkL mc mk xs k := by simp [mkJ, List.take_of_length_le h, List.drop_eq_nil_of_le h]
@[simp] theorem mkJ_len {xs : List α} {k : Int} {j : Nat} (h : j ≤ xs.length) : (mkJ mc mk xs k j).length = xs.length := by simp [mkJ]; omega
theorem mkJ_get {xs : List α} {k : Int} {j : Nat} (h : j < xs.length) : (mkJ mc mk xs k j)[j]'(by rw [mkJ_len (by omega)]; exact h) = xs[j] := by
  unfold mkJ
  have hl : (mkL mc mk (xs.take j) k).length = j := by simp; omega
  rw [List.getElem_append_right (by omega)]
  simp [hl]
theorem mkJ_set {xs : List α} {k : Int} {j : Nat} (h : j < xs.length) : (mkJ mc mk xs k j).set j (mk xs[j] (k + (mcL mc (xs.take j) : Nat))) = mkJ mc mk xs k (j + 1) := by
  unfold mkJ
  have hl : (mkL mc mk (xs.take j) k).length = j := by simp; omega
  have ht : xs.take (j + 1) = xs.take j ++ [xs[j]] := by simp
  rw [List.set_append_right _ _ (by omega), hl, Nat.sub_self, ht, mkL_append, List.drop_eq_getElem_cons h, List.set_cons_zero, List.append_assoc]
  rfl
theorem mcL_step {xs : List α} {j : Nat} (h : j < xs.length) : mcL mc (xs.take (j + 1)) = mcL mc (xs.take j) + mc xs[j] := sum_take h
theorem mcL_le {xs : List α} {j : Nat} : mcL mc (xs.take j) ≤ mcL mc xs := sum_take_le
theorem mcL_all {xs : List α} {j : Nat} (h : xs.length ≤ j) : mcL mc (xs.take j) = mcL mc xs := sum_all h
theorem mcL_ge (h : ∀ x, 1 ≤ mc x) (xs : List α) : xs.length ≤ mcL mc xs := by
  induction xs with
  | nil => simp
  | cons x r ih =>
    have := h x
    simp [mcL] at *
    omega
end
theorem set_flat {α : Type} {f : α → List V} {e : Nat} (hf : ∀ x, (f x).length = e) {o : Nat} (ho : o < e) {v : V} {y : α} : ∀ {xs : List α} {j : Nat} (h : j < xs.length), f y = (f xs[j]).set o v → (xs.flatMap f).set (j * e + o) v = (xs.set j y).flatMap f
  | [], j, h, _ => by simp at h
  | x :: xs, 0, _, hy => by
    simp only [List.flatMap_cons, List.set_cons_zero, Nat.zero_mul, Nat.zero_add]
    rw [List.set_append_left _ _ (by rw [hf]; exact ho), hy]
    rfl
  | x :: xs, j + 1, h, hy => by
    simp only [List.flatMap_cons, List.set_cons_succ]
    have e1 : (j + 1) * e + o = (f x).length + (j * e + o) := by rw [hf, Nat.add_mul]; omega
    rw [e1, List.set_append_right _ _ (by omega), Nat.add_sub_cancel_left, set_flat hf ho (by simpa using h) (by simpa using hy)]
@[simp high] theorem eBox_s0 {xs : List Box} {j : Nat} (h : j < xs.length) (a : Int) : (xs.flatMap eBox).set (j * 4) (.sc (.int .i64 a)) = (xs.set j ⟨a, xs[j].drops, xs[j].strips, xs[j].lists⟩).flatMap eBox := set_flat (o := 0) eBox_len (by omega) h rfl
@[simp high] theorem eBox_s1 {xs : List Box} {j : Nat} (h : j < xs.length) {n : Nat} (a : List Int) (hn : n = a.length) : (xs.flatMap eBox).set (j * 4 + 1) (.sl 0 1 n (ints a)) = (xs.set j ⟨xs[j].limit, a, xs[j].strips, xs[j].lists⟩).flatMap eBox := by subst hn; exact set_flat (o := 1) eBox_len (by omega) h rfl
@[simp high] theorem eBox_s2 {xs : List Box} {j : Nat} (h : j < xs.length) {n : Nat} (a : List Int) (hn : n = a.length) : (xs.flatMap eBox).set (j * 4 + 2) (.sl 0 1 n (ints a)) = (xs.set j ⟨xs[j].limit, xs[j].drops, a, xs[j].lists⟩).flatMap eBox := by subst hn; exact set_flat (o := 2) eBox_len (by omega) h rfl
@[simp high] theorem eBox_s3 {xs : List Box} {j : Nat} (h : j < xs.length) (a : Bool) : (xs.flatMap eBox).set (j * 4 + 3) (.sc (.bool a)) = (xs.set j ⟨xs[j].limit, xs[j].drops, xs[j].strips, a⟩).flatMap eBox := set_flat (o := 3) eBox_len (by omega) h rfl
@[simp high] theorem eDialed_s0 {xs : List Dialed} {j : Nat} (h : j < xs.length) (a : Bool) : (xs.flatMap eDialed).set (j * 5) (.sc (.bool a)) = (xs.set j ⟨⟨a, xs[j].deal.version, xs[j].deal.tags⟩, xs[j].tries, xs[j].up⟩).flatMap eDialed := set_flat (o := 0) eDialed_len (by omega) h rfl
@[simp high] theorem eDialed_s1 {xs : List Dialed} {j : Nat} (h : j < xs.length) (a : Int) : (xs.flatMap eDialed).set (j * 5 + 1) (.sc (.int .i64 a)) = (xs.set j ⟨⟨xs[j].deal.ok, a, xs[j].deal.tags⟩, xs[j].tries, xs[j].up⟩).flatMap eDialed := set_flat (o := 1) eDialed_len (by omega) h rfl
@[simp high] theorem eDialed_s2 {xs : List Dialed} {j : Nat} (h : j < xs.length) {n : Nat} (a : List Int) (hn : n = a.length) : (xs.flatMap eDialed).set (j * 5 + 2) (.sl 0 1 n (ints a)) = (xs.set j ⟨⟨xs[j].deal.ok, xs[j].deal.version, a⟩, xs[j].tries, xs[j].up⟩).flatMap eDialed := by subst hn; exact set_flat (o := 2) eDialed_len (by omega) h rfl
@[simp high] theorem eDialed_s3 {xs : List Dialed} {j : Nat} (h : j < xs.length) (a : Int) : (xs.flatMap eDialed).set (j * 5 + 3) (.sc (.int .i64 a)) = (xs.set j ⟨⟨xs[j].deal.ok, xs[j].deal.version, xs[j].deal.tags⟩, a, xs[j].up⟩).flatMap eDialed := set_flat (o := 3) eDialed_len (by omega) h rfl
@[simp high] theorem eDialed_s4 {xs : List Dialed} {j : Nat} (h : j < xs.length) {n : Nat} (a : List Int) (hn : n = a.length) : (xs.flatMap eDialed).set (j * 5 + 4) (.sl 0 1 n (ints a)) = (xs.set j ⟨⟨xs[j].deal.ok, xs[j].deal.version, xs[j].deal.tags⟩, xs[j].tries, a⟩).flatMap eDialed := by subst hn; exact set_flat (o := 4) eDialed_len (by omega) h rfl
@[simp high] theorem eEndpoint_s0 {xs : List Endpoint} {j : Nat} (h : j < xs.length) {n : Nat} (a : List Int) (hn : n = a.length) : (xs.flatMap eEndpoint).set (j * 4) (.sl 0 1 n (ints a)) = (xs.set j ⟨a, xs[j].tags, xs[j].path, xs[j].cls⟩).flatMap eEndpoint := by subst hn; exact set_flat (o := 0) eEndpoint_len (by omega) h rfl
@[simp high] theorem eEndpoint_s1 {xs : List Endpoint} {j : Nat} (h : j < xs.length) {n : Nat} (a : List Int) (hn : n = a.length) : (xs.flatMap eEndpoint).set (j * 4 + 1) (.sl 0 1 n (ints a)) = (xs.set j ⟨xs[j].versions, a, xs[j].path, xs[j].cls⟩).flatMap eEndpoint := by subst hn; exact set_flat (o := 1) eEndpoint_len (by omega) h rfl
@[simp high] theorem eEndpoint_s2 {xs : List Endpoint} {j : Nat} (h : j < xs.length) {n : Nat} (a : List Box) (hn : n = a.length) : (xs.flatMap eEndpoint).set (j * 4 + 2) (.sl 0 4 n (a.flatMap eBox)) = (xs.set j ⟨xs[j].versions, xs[j].tags, a, xs[j].cls⟩).flatMap eEndpoint := by subst hn; exact set_flat (o := 2) eEndpoint_len (by omega) h rfl
@[simp high] theorem eEndpoint_s3 {xs : List Endpoint} {j : Nat} (h : j < xs.length) (a : Int) : (xs.flatMap eEndpoint).set (j * 4 + 3) (.sc (.int .i64 a)) = (xs.set j ⟨xs[j].versions, xs[j].tags, xs[j].path, a⟩).flatMap eEndpoint := set_flat (o := 3) eEndpoint_len (by omega) h rfl
@[simp high] theorem eLogged_s0 {xs : List Logged} {j : Nat} (h : j < xs.length) (a : Int) : (xs.flatMap eLogged).set (j * 8) (.sc (.int .i64 a)) = (xs.set j ⟨a, xs[j].tick, xs[j].on, ⟨⟨xs[j].dialed.deal.ok, xs[j].dialed.deal.version, xs[j].dialed.deal.tags⟩, xs[j].dialed.tries, xs[j].dialed.up⟩⟩).flatMap eLogged := set_flat (o := 0) eLogged_len (by omega) h rfl
@[simp high] theorem eLogged_s1 {xs : List Logged} {j : Nat} (h : j < xs.length) (a : Int) : (xs.flatMap eLogged).set (j * 8 + 1) (.sc (.int .i64 a)) = (xs.set j ⟨xs[j].fin, a, xs[j].on, ⟨⟨xs[j].dialed.deal.ok, xs[j].dialed.deal.version, xs[j].dialed.deal.tags⟩, xs[j].dialed.tries, xs[j].dialed.up⟩⟩).flatMap eLogged := set_flat (o := 1) eLogged_len (by omega) h rfl
@[simp high] theorem eLogged_s2 {xs : List Logged} {j : Nat} (h : j < xs.length) (a : Bool) : (xs.flatMap eLogged).set (j * 8 + 2) (.sc (.bool a)) = (xs.set j ⟨xs[j].fin, xs[j].tick, a, ⟨⟨xs[j].dialed.deal.ok, xs[j].dialed.deal.version, xs[j].dialed.deal.tags⟩, xs[j].dialed.tries, xs[j].dialed.up⟩⟩).flatMap eLogged := set_flat (o := 2) eLogged_len (by omega) h rfl
@[simp high] theorem eLogged_s3 {xs : List Logged} {j : Nat} (h : j < xs.length) (a : Bool) : (xs.flatMap eLogged).set (j * 8 + 3) (.sc (.bool a)) = (xs.set j ⟨xs[j].fin, xs[j].tick, xs[j].on, ⟨⟨a, xs[j].dialed.deal.version, xs[j].dialed.deal.tags⟩, xs[j].dialed.tries, xs[j].dialed.up⟩⟩).flatMap eLogged := set_flat (o := 3) eLogged_len (by omega) h rfl
@[simp high] theorem eLogged_s4 {xs : List Logged} {j : Nat} (h : j < xs.length) (a : Int) : (xs.flatMap eLogged).set (j * 8 + 4) (.sc (.int .i64 a)) = (xs.set j ⟨xs[j].fin, xs[j].tick, xs[j].on, ⟨⟨xs[j].dialed.deal.ok, a, xs[j].dialed.deal.tags⟩, xs[j].dialed.tries, xs[j].dialed.up⟩⟩).flatMap eLogged := set_flat (o := 4) eLogged_len (by omega) h rfl
@[simp high] theorem eLogged_s5 {xs : List Logged} {j : Nat} (h : j < xs.length) {n : Nat} (a : List Int) (hn : n = a.length) : (xs.flatMap eLogged).set (j * 8 + 5) (.sl 0 1 n (ints a)) = (xs.set j ⟨xs[j].fin, xs[j].tick, xs[j].on, ⟨⟨xs[j].dialed.deal.ok, xs[j].dialed.deal.version, a⟩, xs[j].dialed.tries, xs[j].dialed.up⟩⟩).flatMap eLogged := by subst hn; exact set_flat (o := 5) eLogged_len (by omega) h rfl
@[simp high] theorem eLogged_s6 {xs : List Logged} {j : Nat} (h : j < xs.length) (a : Int) : (xs.flatMap eLogged).set (j * 8 + 6) (.sc (.int .i64 a)) = (xs.set j ⟨xs[j].fin, xs[j].tick, xs[j].on, ⟨⟨xs[j].dialed.deal.ok, xs[j].dialed.deal.version, xs[j].dialed.deal.tags⟩, a, xs[j].dialed.up⟩⟩).flatMap eLogged := set_flat (o := 6) eLogged_len (by omega) h rfl
@[simp high] theorem eLogged_s7 {xs : List Logged} {j : Nat} (h : j < xs.length) {n : Nat} (a : List Int) (hn : n = a.length) : (xs.flatMap eLogged).set (j * 8 + 7) (.sl 0 1 n (ints a)) = (xs.set j ⟨xs[j].fin, xs[j].tick, xs[j].on, ⟨⟨xs[j].dialed.deal.ok, xs[j].dialed.deal.version, xs[j].dialed.deal.tags⟩, xs[j].dialed.tries, a⟩⟩).flatMap eLogged := by subst hn; exact set_flat (o := 7) eLogged_len (by omega) h rfl
@[simp high] theorem eEvent_s0 {xs : List Event} {j : Nat} (h : j < xs.length) (a : Int) : (xs.flatMap eEvent).set (j * 6) (.sc (.int .i64 a)) = (xs.set j ⟨a, xs[j].n, ⟨xs[j].box.limit, xs[j].box.drops, xs[j].box.strips, xs[j].box.lists⟩⟩).flatMap eEvent := set_flat (o := 0) eEvent_len (by omega) h rfl
@[simp high] theorem eEvent_s1 {xs : List Event} {j : Nat} (h : j < xs.length) (a : Int) : (xs.flatMap eEvent).set (j * 6 + 1) (.sc (.int .i64 a)) = (xs.set j ⟨xs[j].kind, a, ⟨xs[j].box.limit, xs[j].box.drops, xs[j].box.strips, xs[j].box.lists⟩⟩).flatMap eEvent := set_flat (o := 1) eEvent_len (by omega) h rfl
@[simp high] theorem eEvent_s2 {xs : List Event} {j : Nat} (h : j < xs.length) (a : Int) : (xs.flatMap eEvent).set (j * 6 + 2) (.sc (.int .i64 a)) = (xs.set j ⟨xs[j].kind, xs[j].n, ⟨a, xs[j].box.drops, xs[j].box.strips, xs[j].box.lists⟩⟩).flatMap eEvent := set_flat (o := 2) eEvent_len (by omega) h rfl
@[simp high] theorem eEvent_s3 {xs : List Event} {j : Nat} (h : j < xs.length) {n : Nat} (a : List Int) (hn : n = a.length) : (xs.flatMap eEvent).set (j * 6 + 3) (.sl 0 1 n (ints a)) = (xs.set j ⟨xs[j].kind, xs[j].n, ⟨xs[j].box.limit, a, xs[j].box.strips, xs[j].box.lists⟩⟩).flatMap eEvent := by subst hn; exact set_flat (o := 3) eEvent_len (by omega) h rfl
@[simp high] theorem eEvent_s4 {xs : List Event} {j : Nat} (h : j < xs.length) {n : Nat} (a : List Int) (hn : n = a.length) : (xs.flatMap eEvent).set (j * 6 + 4) (.sl 0 1 n (ints a)) = (xs.set j ⟨xs[j].kind, xs[j].n, ⟨xs[j].box.limit, xs[j].box.drops, a, xs[j].box.lists⟩⟩).flatMap eEvent := by subst hn; exact set_flat (o := 4) eEvent_len (by omega) h rfl
@[simp high] theorem eEvent_s5 {xs : List Event} {j : Nat} (h : j < xs.length) (a : Bool) : (xs.flatMap eEvent).set (j * 6 + 5) (.sc (.bool a)) = (xs.set j ⟨xs[j].kind, xs[j].n, ⟨xs[j].box.limit, xs[j].box.drops, xs[j].box.strips, a⟩⟩).flatMap eEvent := set_flat (o := 5) eEvent_len (by omega) h rfl
def mcDeal (x : Deal) : Nat := x.tags.length
def mkDeal (x : Deal) (k : Int) : Deal := ⟨x.ok, x.version, nums x.tags.length (k)⟩
def mcBox (x : Box) : Nat := 1 + x.drops.length + x.strips.length + 1
def mkBox (x : Box) (k : Int) : Box := ⟨k, nums x.drops.length (k + 1), nums x.strips.length (k + 1 + ((x.drops.length : Nat) : Int)), ((k + 1 + ((x.drops.length : Nat) : Int) + ((x.strips.length : Nat) : Int)).tmod 3 == 0)⟩
def mcDialed (x : Dialed) : Nat := 1 + 1 + x.deal.tags.length + 1 + x.up.length
def mkDialed (x : Dialed) (k : Int) : Dialed := ⟨⟨((k).tmod 3 == 0), k + 1, nums x.deal.tags.length (k + 1 + 1)⟩, k + 1 + 1 + ((x.deal.tags.length : Nat) : Int), nums x.up.length (k + 1 + 1 + ((x.deal.tags.length : Nat) : Int) + 1)⟩
def mcEndpoint (x : Endpoint) : Nat := x.versions.length + x.tags.length + mcL mcBox x.path + 1
def mkEndpoint (x : Endpoint) (k : Int) : Endpoint := ⟨nums x.versions.length (k), nums x.tags.length (k + ((x.versions.length : Nat) : Int)), mkL mcBox mkBox x.path (k + ((x.versions.length : Nat) : Int) + ((x.tags.length : Nat) : Int)), k + ((x.versions.length : Nat) : Int) + ((x.tags.length : Nat) : Int) + ((mcL mcBox x.path : Nat) : Int)⟩
def mcLogged (x : Logged) : Nat := 1 + 1 + 1 + 1 + 1 + x.dialed.deal.tags.length + 1 + x.dialed.up.length
def mkLogged (x : Logged) (k : Int) : Logged := ⟨k, k + 1, ((k + 1 + 1).tmod 3 == 0), ⟨⟨((k + 1 + 1 + 1).tmod 3 == 0), k + 1 + 1 + 1 + 1, nums x.dialed.deal.tags.length (k + 1 + 1 + 1 + 1 + 1)⟩, k + 1 + 1 + 1 + 1 + 1 + ((x.dialed.deal.tags.length : Nat) : Int), nums x.dialed.up.length (k + 1 + 1 + 1 + 1 + 1 + ((x.dialed.deal.tags.length : Nat) : Int) + 1)⟩⟩
def mcEvent (x : Event) : Nat := 1 + 1 + 1 + x.box.drops.length + x.box.strips.length + 1
def mkEvent (x : Event) (k : Int) : Event := ⟨k, k + 1, ⟨k + 1 + 1, nums x.box.drops.length (k + 1 + 1 + 1), nums x.box.strips.length (k + 1 + 1 + 1 + ((x.box.drops.length : Nat) : Int)), ((k + 1 + 1 + 1 + ((x.box.drops.length : Nat) : Int) + ((x.box.strips.length : Nat) : Int)).tmod 3 == 0)⟩⟩
def mcRollout (x : Rollout) : Nat := x.stages.length
def mkRollout (x : Rollout) (k : Int) : Rollout := ⟨x.version, nums x.stages.length (k), x.pos, x.off⟩
def mcWorld (x : World) : Nat := x.server.length + x.tags.length + mcL mcEndpoint x.ends + x.rollout.stages.length + mcL mcDialed x.stage + mcL mcLogged x.log
def mkWorld (x : World) (k : Int) : World := ⟨nums x.server.length (k), nums x.tags.length (k + ((x.server.length : Nat) : Int)), x.key, mkL mcEndpoint mkEndpoint x.ends (k + ((x.server.length : Nat) : Int) + ((x.tags.length : Nat) : Int)), ⟨x.rollout.version, nums x.rollout.stages.length (k + ((x.server.length : Nat) : Int) + ((x.tags.length : Nat) : Int) + ((mcL mcEndpoint x.ends : Nat) : Int)), x.rollout.pos, x.rollout.off⟩, x.least, x.percent, mkL mcDialed mkDialed x.stage (k + ((x.server.length : Nat) : Int) + ((x.tags.length : Nat) : Int) + ((mcL mcEndpoint x.ends : Nat) : Int) + ((x.rollout.stages.length : Nat) : Int)), mkL mcLogged mkLogged x.log (k + ((x.server.length : Nat) : Int) + ((x.tags.length : Nat) : Int) + ((mcL mcEndpoint x.ends : Nat) : Int) + ((x.rollout.stages.length : Nat) : Int) + ((mcL mcDialed x.stage : Nat) : Int)), x.now, x.hurt, x.reached⟩
def mcTBox (x : Box) : Nat := x.drops.length + x.strips.length
def mkTBox (x : Box) (k : Int) : Box := ⟨x.limit, nums x.drops.length (k), nums x.strips.length (k + ((x.drops.length : Nat) : Int)), x.lists⟩
def mcTDialed (x : Dialed) : Nat := x.deal.tags.length + x.up.length
def mkTDialed (x : Dialed) (k : Int) : Dialed := ⟨⟨x.deal.ok, x.deal.version, nums x.deal.tags.length (k)⟩, x.tries, nums x.up.length (k + ((x.deal.tags.length : Nat) : Int))⟩
def mcTEndpoint (x : Endpoint) : Nat := x.versions.length + x.tags.length + mcL mcBox x.path
def mkTEndpoint (x : Endpoint) (k : Int) : Endpoint := ⟨nums x.versions.length (k), nums x.tags.length (k + ((x.versions.length : Nat) : Int)), mkL mcBox mkBox x.path (k + ((x.versions.length : Nat) : Int) + ((x.tags.length : Nat) : Int)), x.cls⟩
def mcTLogged (x : Logged) : Nat := x.dialed.deal.tags.length + x.dialed.up.length
def mkTLogged (x : Logged) (k : Int) : Logged := ⟨x.fin, x.tick, x.on, ⟨⟨x.dialed.deal.ok, x.dialed.deal.version, nums x.dialed.deal.tags.length (k)⟩, x.dialed.tries, nums x.dialed.up.length (k + ((x.dialed.deal.tags.length : Nat) : Int))⟩⟩
def mcTEvent (x : Event) : Nat := x.box.drops.length + x.box.strips.length
def mkTEvent (x : Event) (k : Int) : Event := ⟨x.kind, x.n, ⟨x.box.limit, nums x.box.drops.length (k), nums x.box.strips.length (k + ((x.box.drops.length : Nat) : Int)), x.box.lists⟩⟩
end Go.Eng.T

namespace Go.Eng.T
theorem datL_cons {y : Ty} {ys : List Ty} {cs : List V} (h : DatL (y :: ys) cs) : ∃ a b, Dat y a ∧ DatL ys b ∧ cs = a ++ b := by simp only [DatL] at h; exact h
theorem datL_nil {cs : List V} (h : DatL [] cs) : cs = [] := by simp only [DatL] at h; exact h
theorem dat_st {ys : List Ty} {cs : List V} (h : Dat (.st ys) cs) : DatL ys cs := by simp only [Dat] at h; exact h
def rgI (n : Int) : Prop := -9223372036854775808 ≤ n ∧ n ≤ 9223372036854775807
theorem rg_of {n : Int} (h : (Lit.int .i64 n).wf = true) : rgI n := by
  simp only [Lit.wf, IntKind.min, IntKind.max, IntKind.bits, IntKind.signed, Bool.and_eq_true, decide_eq_true_eq] at h
  exact ⟨h.1, h.2⟩
theorem datI {cs : List V} (h : Dat (.int .i64) cs) : ∃ n, cs = [.sc (.int .i64 n)] ∧ rgI n := by
  simp only [Dat] at h
  obtain ⟨n, h1, h2⟩ := h
  exact ⟨n, h2, rg_of h1⟩
theorem datB {cs : List V} (h : Dat .bool cs) : ∃ b, cs = [.sc (.bool b)] := by simp only [Dat] at h; exact h
theorem datS {cs : List V} (h : Dat .str cs) : ∃ s : ByteArray, cs = [.sc (.string s)] ∧ s.size ≤ maxLen := by
  simp only [Dat] at h
  obtain ⟨n, h1, h2⟩ := h
  exact ⟨n, h2, h1⟩
theorem choose_row {α : Type} {f : α → List V} {p : α → Prop} : ∀ {xs : List (List V)}, (∀ x, x ∈ xs → ∃ d, x = f d ∧ p d) → ∃ ds : List α, xs = ds.map f ∧ ∀ d, d ∈ ds → p d
  | [], _ => ⟨[], rfl, by simp⟩
  | x :: xs, h => by
    obtain ⟨d, rfl, hd⟩ := h x (by simp)
    obtain ⟨ds, rfl, hds⟩ := choose_row (xs := xs) fun y hy => h y (by simp [hy])
    exact ⟨d :: ds, rfl, by intro y hy; rcases List.mem_cons.1 hy with rfl | hy; exact hd; exact hds y hy⟩
theorem datRow {α : Type} {y : Ty} {f : α → List V} {p : α → Prop} (hf : ∀ cs, Dat y cs → ∃ d, cs = f d ∧ p d) {cs : List V} (h : Dat (.sl y) cs) :
    ∃ ds : List α, cs = [.sl 0 y.cells ds.length (ds.flatMap f)] ∧ ds.length ≤ maxLen ∧ ∀ d, d ∈ ds → p d := by
  simp only [Dat] at h
  obtain ⟨xs, h1, h2, rfl⟩ := h
  obtain ⟨ds, rfl, h3⟩ := choose_row (f := f) (p := p) (xs := xs) fun x hx => hf x (h2 x hx)
  exact ⟨ds, by simp [List.flatMap_def], by simpa using h1, h3⟩
def rgInts (xs : List Int) : Prop := ∀ x, x ∈ xs → rgI x
def rgS {α : Type} (f : α → Prop) (xs : List α) : Prop := ∀ x, x ∈ xs → f x
theorem datInts {cs : List V} (h : Dat (.sl (.int .i64)) cs) : ∃ xs : List Int, cs = [.sl 0 1 xs.length (ints xs)] ∧ lnInts xs ∧ rgInts xs := by
  obtain ⟨ds, h1, h2, h3⟩ := datRow (f := fun n => [V.sc (.int .i64 n)]) (p := rgI) (fun cs h => datI h) h
  refine ⟨ds, ?_, h2, h3⟩
  have e : ds.flatMap (fun n => [V.sc (.int .i64 n)]) = ints ds := by
    clear h1 h2 h3
    induction ds with
    | nil => rfl
    | cons a ds ih => rw [List.flatMap_cons, ih]; rfl
  rw [h1, e]
  rfl
def tyDeal : Ty := .st [.bool, .int .i64, .sl (.int .i64)]
def rgDeal (d : Deal) : Prop := rgI d.version ∧ rgInts d.tags
theorem datDeal {cs : List V} (h : Dat tyDeal cs) : ∃ x : Deal, cs = eDeal x ∧ lnDeal x ∧ rgDeal x := by
  have h0 := dat_st h
  obtain ⟨a0, r0, g0, h1, e0⟩ := datL_cons h0
  obtain ⟨x0, rfl⟩ := datB g0
  obtain ⟨a1, r1, g1, h2, e1⟩ := datL_cons h1
  obtain ⟨x1, rfl, w1⟩ := datI g1
  obtain ⟨a2, r2, g2, h3, e2⟩ := datL_cons h2
  obtain ⟨x2, rfl, l2, w2⟩ := datInts g2
  have z := datL_nil h3
  subst z; subst e2; subst e1; subst e0
  exact ⟨⟨x0, x1, x2⟩, rfl, l2, ⟨w1, w2⟩⟩
def tyBox : Ty := .st [.int .i64, .sl (.int .i64), .sl (.int .i64), .bool]
def rgBox (d : Box) : Prop := rgI d.limit ∧ rgInts d.drops ∧ rgInts d.strips
theorem datBox {cs : List V} (h : Dat tyBox cs) : ∃ x : Box, cs = eBox x ∧ lnBox x ∧ rgBox x := by
  have h0 := dat_st h
  obtain ⟨a0, r0, g0, h1, e0⟩ := datL_cons h0
  obtain ⟨x0, rfl, w0⟩ := datI g0
  obtain ⟨a1, r1, g1, h2, e1⟩ := datL_cons h1
  obtain ⟨x1, rfl, l1, w1⟩ := datInts g1
  obtain ⟨a2, r2, g2, h3, e2⟩ := datL_cons h2
  obtain ⟨x2, rfl, l2, w2⟩ := datInts g2
  obtain ⟨a3, r3, g3, h4, e3⟩ := datL_cons h3
  obtain ⟨x3, rfl⟩ := datB g3
  have z := datL_nil h4
  subst z; subst e3; subst e2; subst e1; subst e0
  exact ⟨⟨x0, x1, x2, x3⟩, rfl, ⟨l1, l2⟩, ⟨w0, w1, w2⟩⟩
theorem datBoxS {cs : List V} (h : Dat (.sl tyBox) cs) : ∃ xs : List Box, cs = [.sl 0 4 xs.length (xs.flatMap eBox)] ∧ lnS lnBox xs ∧ rgS rgBox xs := by
  obtain ⟨ds, h1, h2, h3⟩ := datRow (f := eBox) (p := fun x => lnBox x ∧ rgBox x) (fun cs h => datBox h) h
  exact ⟨ds, h1, ⟨h2, fun j hj => (h3 _ (List.getElem_mem hj)).1⟩, fun x hx => (h3 x hx).2⟩
def tyDialed : Ty := .st [tyDeal, .int .i64, .sl (.int .i64)]
def rgDialed (d : Dialed) : Prop := rgDeal d.deal ∧ rgI d.tries ∧ rgInts d.up
theorem datDialed {cs : List V} (h : Dat tyDialed cs) : ∃ x : Dialed, cs = eDialed x ∧ lnDialed x ∧ rgDialed x := by
  have h0 := dat_st h
  obtain ⟨a0, r0, g0, h1, e0⟩ := datL_cons h0
  obtain ⟨x0, rfl, l0, w0⟩ := datDeal g0
  obtain ⟨a1, r1, g1, h2, e1⟩ := datL_cons h1
  obtain ⟨x1, rfl, w1⟩ := datI g1
  obtain ⟨a2, r2, g2, h3, e2⟩ := datL_cons h2
  obtain ⟨x2, rfl, l2, w2⟩ := datInts g2
  have z := datL_nil h3
  subst z; subst e2; subst e1; subst e0
  exact ⟨⟨x0, x1, x2⟩, rfl, ⟨l0, l2⟩, ⟨w0, w1, w2⟩⟩
theorem datDialedS {cs : List V} (h : Dat (.sl tyDialed) cs) : ∃ xs : List Dialed, cs = [.sl 0 5 xs.length (xs.flatMap eDialed)] ∧ lnS lnDialed xs ∧ rgS rgDialed xs := by
  obtain ⟨ds, h1, h2, h3⟩ := datRow (f := eDialed) (p := fun x => lnDialed x ∧ rgDialed x) (fun cs h => datDialed h) h
  exact ⟨ds, h1, ⟨h2, fun j hj => (h3 _ (List.getElem_mem hj)).1⟩, fun x hx => (h3 x hx).2⟩
def tyRollout : Ty := .st [.int .i64, .sl (.int .i64), .int .i64, .bool]
def rgRollout (d : Rollout) : Prop := rgI d.version ∧ rgInts d.stages ∧ rgI d.pos
theorem datRollout {cs : List V} (h : Dat tyRollout cs) : ∃ x : Rollout, cs = eRollout x ∧ lnRollout x ∧ rgRollout x := by
  have h0 := dat_st h
  obtain ⟨a0, r0, g0, h1, e0⟩ := datL_cons h0
  obtain ⟨x0, rfl, w0⟩ := datI g0
  obtain ⟨a1, r1, g1, h2, e1⟩ := datL_cons h1
  obtain ⟨x1, rfl, l1, w1⟩ := datInts g1
  obtain ⟨a2, r2, g2, h3, e2⟩ := datL_cons h2
  obtain ⟨x2, rfl, w2⟩ := datI g2
  obtain ⟨a3, r3, g3, h4, e3⟩ := datL_cons h3
  obtain ⟨x3, rfl⟩ := datB g3
  have z := datL_nil h4
  subst z; subst e3; subst e2; subst e1; subst e0
  exact ⟨⟨x0, x1, x2, x3⟩, rfl, l1, ⟨w0, w1, w2⟩⟩
def tyEndpoint : Ty := .st [.sl (.int .i64), .sl (.int .i64), .sl tyBox, .int .i64]
def rgEndpoint (d : Endpoint) : Prop := rgInts d.versions ∧ rgInts d.tags ∧ rgS rgBox d.path ∧ rgI d.cls
theorem datEndpoint {cs : List V} (h : Dat tyEndpoint cs) : ∃ x : Endpoint, cs = eEndpoint x ∧ lnEndpoint x ∧ rgEndpoint x := by
  have h0 := dat_st h
  obtain ⟨a0, r0, g0, h1, e0⟩ := datL_cons h0
  obtain ⟨x0, rfl, l0, w0⟩ := datInts g0
  obtain ⟨a1, r1, g1, h2, e1⟩ := datL_cons h1
  obtain ⟨x1, rfl, l1, w1⟩ := datInts g1
  obtain ⟨a2, r2, g2, h3, e2⟩ := datL_cons h2
  obtain ⟨x2, rfl, l2, w2⟩ := datBoxS g2
  obtain ⟨a3, r3, g3, h4, e3⟩ := datL_cons h3
  obtain ⟨x3, rfl, w3⟩ := datI g3
  have z := datL_nil h4
  subst z; subst e3; subst e2; subst e1; subst e0
  exact ⟨⟨x0, x1, x2, x3⟩, rfl, ⟨l0, l1, l2⟩, ⟨w0, w1, w2, w3⟩⟩
theorem datEndpointS {cs : List V} (h : Dat (.sl tyEndpoint) cs) : ∃ xs : List Endpoint, cs = [.sl 0 4 xs.length (xs.flatMap eEndpoint)] ∧ lnS lnEndpoint xs ∧ rgS rgEndpoint xs := by
  obtain ⟨ds, h1, h2, h3⟩ := datRow (f := eEndpoint) (p := fun x => lnEndpoint x ∧ rgEndpoint x) (fun cs h => datEndpoint h) h
  exact ⟨ds, h1, ⟨h2, fun j hj => (h3 _ (List.getElem_mem hj)).1⟩, fun x hx => (h3 x hx).2⟩
def tyLogged : Ty := .st [.int .i64, .int .i64, .bool, tyDialed]
def rgLogged (d : Logged) : Prop := rgI d.fin ∧ rgI d.tick ∧ rgDialed d.dialed
theorem datLogged {cs : List V} (h : Dat tyLogged cs) : ∃ x : Logged, cs = eLogged x ∧ lnLogged x ∧ rgLogged x := by
  have h0 := dat_st h
  obtain ⟨a0, r0, g0, h1, e0⟩ := datL_cons h0
  obtain ⟨x0, rfl, w0⟩ := datI g0
  obtain ⟨a1, r1, g1, h2, e1⟩ := datL_cons h1
  obtain ⟨x1, rfl, w1⟩ := datI g1
  obtain ⟨a2, r2, g2, h3, e2⟩ := datL_cons h2
  obtain ⟨x2, rfl⟩ := datB g2
  obtain ⟨a3, r3, g3, h4, e3⟩ := datL_cons h3
  obtain ⟨x3, rfl, l3, w3⟩ := datDialed g3
  have z := datL_nil h4
  subst z; subst e3; subst e2; subst e1; subst e0
  exact ⟨⟨x0, x1, x2, x3⟩, rfl, l3, ⟨w0, w1, w3⟩⟩
theorem datLoggedS {cs : List V} (h : Dat (.sl tyLogged) cs) : ∃ xs : List Logged, cs = [.sl 0 8 xs.length (xs.flatMap eLogged)] ∧ lnS lnLogged xs ∧ rgS rgLogged xs := by
  obtain ⟨ds, h1, h2, h3⟩ := datRow (f := eLogged) (p := fun x => lnLogged x ∧ rgLogged x) (fun cs h => datLogged h) h
  exact ⟨ds, h1, ⟨h2, fun j hj => (h3 _ (List.getElem_mem hj)).1⟩, fun x hx => (h3 x hx).2⟩
def tyWorld : Ty := .st [.sl (.int .i64), .sl (.int .i64), .int .i64, .sl tyEndpoint, tyRollout, .int .i64, .int .i64, .sl tyDialed, .sl tyLogged, .int .i64, .int .i64, .int .i64]
def rgWorld (d : World) : Prop := rgInts d.server ∧ rgInts d.tags ∧ rgI d.key ∧ rgS rgEndpoint d.ends ∧ rgRollout d.rollout ∧ rgI d.least ∧ rgI d.percent ∧ rgS rgDialed d.stage ∧ rgS rgLogged d.log ∧ rgI d.now ∧ rgI d.hurt ∧ rgI d.reached
theorem datWorld {cs : List V} (h : Dat tyWorld cs) : ∃ x : World, cs = eWorld x ∧ lnWorld x ∧ rgWorld x := by
  have h0 := dat_st h
  obtain ⟨a0, r0, g0, h1, e0⟩ := datL_cons h0
  obtain ⟨x0, rfl, l0, w0⟩ := datInts g0
  obtain ⟨a1, r1, g1, h2, e1⟩ := datL_cons h1
  obtain ⟨x1, rfl, l1, w1⟩ := datInts g1
  obtain ⟨a2, r2, g2, h3, e2⟩ := datL_cons h2
  obtain ⟨x2, rfl, w2⟩ := datI g2
  obtain ⟨a3, r3, g3, h4, e3⟩ := datL_cons h3
  obtain ⟨x3, rfl, l3, w3⟩ := datEndpointS g3
  obtain ⟨a4, r4, g4, h5, e4⟩ := datL_cons h4
  obtain ⟨x4, rfl, l4, w4⟩ := datRollout g4
  obtain ⟨a5, r5, g5, h6, e5⟩ := datL_cons h5
  obtain ⟨x5, rfl, w5⟩ := datI g5
  obtain ⟨a6, r6, g6, h7, e6⟩ := datL_cons h6
  obtain ⟨x6, rfl, w6⟩ := datI g6
  obtain ⟨a7, r7, g7, h8, e7⟩ := datL_cons h7
  obtain ⟨x7, rfl, l7, w7⟩ := datDialedS g7
  obtain ⟨a8, r8, g8, h9, e8⟩ := datL_cons h8
  obtain ⟨x8, rfl, l8, w8⟩ := datLoggedS g8
  obtain ⟨a9, r9, g9, h10, e9⟩ := datL_cons h9
  obtain ⟨x9, rfl, w9⟩ := datI g9
  obtain ⟨a10, r10, g10, h11, e10⟩ := datL_cons h10
  obtain ⟨x10, rfl, w10⟩ := datI g10
  obtain ⟨a11, r11, g11, h12, e11⟩ := datL_cons h11
  obtain ⟨x11, rfl, w11⟩ := datI g11
  have z := datL_nil h12
  subst z; subst e11; subst e10; subst e9; subst e8; subst e7; subst e6; subst e5; subst e4; subst e3; subst e2; subst e1; subst e0
  exact ⟨⟨x0, x1, x2, x3, x4, x5, x6, x7, x8, x9, x10, x11⟩, rfl, ⟨l0, l1, l3, l4, l7, l8⟩, ⟨w0, w1, w2, w3, w4, w5, w6, w7, w8, w9, w10, w11⟩⟩
def tyEvent : Ty := .st [.int .i64, .int .i64, tyBox]
def rgEvent (d : Event) : Prop := rgI d.kind ∧ rgI d.n ∧ rgBox d.box
theorem datEvent {cs : List V} (h : Dat tyEvent cs) : ∃ x : Event, cs = eEvent x ∧ lnEvent x ∧ rgEvent x := by
  have h0 := dat_st h
  obtain ⟨a0, r0, g0, h1, e0⟩ := datL_cons h0
  obtain ⟨x0, rfl, w0⟩ := datI g0
  obtain ⟨a1, r1, g1, h2, e1⟩ := datL_cons h1
  obtain ⟨x1, rfl, w1⟩ := datI g1
  obtain ⟨a2, r2, g2, h3, e2⟩ := datL_cons h2
  obtain ⟨x2, rfl, l2, w2⟩ := datBox g2
  have z := datL_nil h3
  subst z; subst e2; subst e1; subst e0
  exact ⟨⟨x0, x1, x2⟩, rfl, l2, ⟨w0, w1, w2⟩⟩
theorem datEventS {cs : List V} (h : Dat (.sl tyEvent) cs) : ∃ xs : List Event, cs = [.sl 0 6 xs.length (xs.flatMap eEvent)] ∧ lnS lnEvent xs ∧ rgS rgEvent xs := by
  obtain ⟨ds, h1, h2, h3⟩ := datRow (f := eEvent) (p := fun x => lnEvent x ∧ rgEvent x) (fun cs h => datEvent h) h
  exact ⟨ds, h1, ⟨h2, fun j hj => (h3 _ (List.getElem_mem hj)).1⟩, fun x hx => (h3 x hx).2⟩

theorem argI {v : V} (h : ArgV (.int .i64) v) : ∃ n, v = I n ∧ rgI n := by
  obtain ⟨c, hd, rfl⟩ := h
  obtain ⟨n, e, w⟩ := datI hd
  cases e
  exact ⟨n, rfl, w⟩
theorem argB {v : V} (h : ArgV .bool v) : ∃ b, v = B b := by
  obtain ⟨c, hd, rfl⟩ := h
  obtain ⟨n, e⟩ := datB hd
  cases e
  exact ⟨n, rfl⟩
theorem argS {v : V} (h : ArgV .str v) : ∃ s : ByteArray, v = S s ∧ s.size ≤ maxLen := by
  obtain ⟨c, hd, rfl⟩ := h
  obtain ⟨n, e, w⟩ := datS hd
  cases e
  exact ⟨n, rfl, w⟩
theorem argInts {v : V} (h : ArgV (.sl (.int .i64)) v) : ∃ xs : List Int, v = .sl 1 1 xs.length (ints xs) ∧ lnInts xs ∧ rgInts xs := by
  obtain ⟨c, hd, rfl⟩ := h
  obtain ⟨xs, e, w⟩ := datInts hd
  cases e
  exact ⟨xs, rfl, w⟩
theorem argDeal {v : V} (h : ArgV tyDeal v) : ∃ x : Deal, v = arg (eDeal x) ∧ lnDeal x ∧ rgDeal x := by
  obtain ⟨cs, hd, rfl⟩ := h
  obtain ⟨x, rfl, w⟩ := datDeal hd
  exact ⟨x, rfl, w⟩
theorem argBox {v : V} (h : ArgV tyBox v) : ∃ x : Box, v = arg (eBox x) ∧ lnBox x ∧ rgBox x := by
  obtain ⟨cs, hd, rfl⟩ := h
  obtain ⟨x, rfl, w⟩ := datBox hd
  exact ⟨x, rfl, w⟩
theorem argBoxS {v : V} (h : ArgV (.sl tyBox) v) : ∃ xs : List Box, v = .sl 1 4 xs.length (xs.flatMap eBox) ∧ lnS lnBox xs ∧ rgS rgBox xs := by
  obtain ⟨c, hd, rfl⟩ := h
  obtain ⟨xs, e, w⟩ := datBoxS hd
  cases e
  exact ⟨xs, rfl, w⟩
theorem argDialed {v : V} (h : ArgV tyDialed v) : ∃ x : Dialed, v = arg (eDialed x) ∧ lnDialed x ∧ rgDialed x := by
  obtain ⟨cs, hd, rfl⟩ := h
  obtain ⟨x, rfl, w⟩ := datDialed hd
  exact ⟨x, rfl, w⟩
theorem argDialedS {v : V} (h : ArgV (.sl tyDialed) v) : ∃ xs : List Dialed, v = .sl 1 5 xs.length (xs.flatMap eDialed) ∧ lnS lnDialed xs ∧ rgS rgDialed xs := by
  obtain ⟨c, hd, rfl⟩ := h
  obtain ⟨xs, e, w⟩ := datDialedS hd
  cases e
  exact ⟨xs, rfl, w⟩
theorem argRollout {v : V} (h : ArgV tyRollout v) : ∃ x : Rollout, v = arg (eRollout x) ∧ lnRollout x ∧ rgRollout x := by
  obtain ⟨cs, hd, rfl⟩ := h
  obtain ⟨x, rfl, w⟩ := datRollout hd
  exact ⟨x, rfl, w⟩
theorem argEndpoint {v : V} (h : ArgV tyEndpoint v) : ∃ x : Endpoint, v = arg (eEndpoint x) ∧ lnEndpoint x ∧ rgEndpoint x := by
  obtain ⟨cs, hd, rfl⟩ := h
  obtain ⟨x, rfl, w⟩ := datEndpoint hd
  exact ⟨x, rfl, w⟩
theorem argEndpointS {v : V} (h : ArgV (.sl tyEndpoint) v) : ∃ xs : List Endpoint, v = .sl 1 4 xs.length (xs.flatMap eEndpoint) ∧ lnS lnEndpoint xs ∧ rgS rgEndpoint xs := by
  obtain ⟨c, hd, rfl⟩ := h
  obtain ⟨xs, e, w⟩ := datEndpointS hd
  cases e
  exact ⟨xs, rfl, w⟩
theorem argLogged {v : V} (h : ArgV tyLogged v) : ∃ x : Logged, v = arg (eLogged x) ∧ lnLogged x ∧ rgLogged x := by
  obtain ⟨cs, hd, rfl⟩ := h
  obtain ⟨x, rfl, w⟩ := datLogged hd
  exact ⟨x, rfl, w⟩
theorem argLoggedS {v : V} (h : ArgV (.sl tyLogged) v) : ∃ xs : List Logged, v = .sl 1 8 xs.length (xs.flatMap eLogged) ∧ lnS lnLogged xs ∧ rgS rgLogged xs := by
  obtain ⟨c, hd, rfl⟩ := h
  obtain ⟨xs, e, w⟩ := datLoggedS hd
  cases e
  exact ⟨xs, rfl, w⟩
theorem argWorld {v : V} (h : ArgV tyWorld v) : ∃ x : World, v = arg (eWorld x) ∧ lnWorld x ∧ rgWorld x := by
  obtain ⟨cs, hd, rfl⟩ := h
  obtain ⟨x, rfl, w⟩ := datWorld hd
  exact ⟨x, rfl, w⟩
theorem argEvent {v : V} (h : ArgV tyEvent v) : ∃ x : Event, v = arg (eEvent x) ∧ lnEvent x ∧ rgEvent x := by
  obtain ⟨cs, hd, rfl⟩ := h
  obtain ⟨x, rfl, w⟩ := datEvent hd
  exact ⟨x, rfl, w⟩
theorem argEventS {v : V} (h : ArgV (.sl tyEvent) v) : ∃ xs : List Event, v = .sl 1 6 xs.length (xs.flatMap eEvent) ∧ lnS lnEvent xs ∧ rgS rgEvent xs := by
  obtain ⟨c, hd, rfl⟩ := h
  obtain ⟨xs, e, w⟩ := datEventS hd
  cases e
  exact ⟨xs, rfl, w⟩
end Go.Eng.T

namespace Go.Eng.T
theorem szl_lt {n : Nat} {l : Int} (h : l < n) : szl n l = -1 := by unfold szl; rw [if_pos h]
theorem szl_ge {n : Nat} {l : Int} (h : ¬ l < n) : szl n l = l - n := by unfold szl; rw [if_neg h]
theorem mcL_sz {α : Type} {mc sz : α → Nat} (c : Nat) (h : ∀ x, mc x ≤ c * (1 + sz x)) (xs : List α) : mcL mc xs ≤ c * sumF sz xs := by
  induction xs with
  | nil => simp [mcL]
  | cons x r ih =>
    have := h x
    simp only [mcL, sumF, List.map_cons, List.sum_cons, List.length_cons] at *
    rw [Nat.mul_add] at *
    rw [Nat.mul_add] at *
    rw [Nat.mul_add]
    omega
theorem mc_szBoxS (xs : List Box) : mcL mcBox xs ≤ 2 * sumF szBox xs := mcL_sz 2 (fun x => by unfold mcBox szBox; omega) xs
theorem mc_szEndpoint (x : Endpoint) : mcEndpoint x ≤ 2 * (1 + szEndpoint x) := by have := mc_szBoxS x.path; unfold mcEndpoint szEndpoint; omega
theorem mc_szEndpointS (xs : List Endpoint) : mcL mcEndpoint xs ≤ 2 * sumF szEndpoint xs := mcL_sz 2 mc_szEndpoint xs
theorem mc_szDialedS (xs : List Dialed) : mcL mcDialed xs ≤ 3 * sumF szDialed xs := mcL_sz 3 (fun x => by unfold mcDialed szDialed szDeal; omega) xs
theorem mc_szLoggedS (xs : List Logged) : mcL mcLogged xs ≤ 6 * sumF szLogged xs := mcL_sz 6 (fun x => by unfold mcLogged szLogged szDialed szDeal; omega) xs
theorem mc_szEventS (xs : List Event) : mcL mcEvent xs ≤ 4 * sumF szEvent xs := mcL_sz 4 (fun x => by unfold mcEvent szEvent szBox; omega) xs
theorem mc_szWorld (x : World) : mcWorld x ≤ 6 * szWorld x := by
  have := mc_szEndpointS x.ends
  have := mc_szDialedS x.stage
  have := mc_szLoggedS x.log
  unfold mcWorld szWorld szRollout; omega
theorem mc_szBox (x : Box) : mcTBox x ≤ szBox x := by unfold mcTBox szBox; omega
theorem mc_szDialed (x : Dialed) : mcTDialed x ≤ szDialed x := by unfold mcTDialed szDialed szDeal; omega
theorem mc_szDeal (x : Deal) : mcDeal x ≤ szDeal x := by unfold mcDeal szDeal; omega
theorem mc_szEvent (x : Event) : mcTEvent x ≤ szEvent x := by unfold mcTEvent szEvent szBox; omega
theorem mc_szRollout (x : Rollout) : mcRollout x ≤ szRollout x := by unfold mcRollout szRollout; omega
theorem mc_szEndpoint' (x : Endpoint) : mcTEndpoint x ≤ 2 * szEndpoint x := by have := mc_szBoxS x.path; unfold mcTEndpoint szEndpoint; omega
/-- sizes of a world's parts -/
theorem world_log {w : World} (h : szWorld w ≤ 1048576) : w.log.length ≤ 1048576 := by have := size_len (f := szLogged) (xs := w.log); unfold szWorld at h; omega
theorem world_ends {w : World} (h : szWorld w ≤ 1048576) : w.ends.length ≤ 1048576 := by have := size_len (f := szEndpoint) (xs := w.ends); unfold szWorld at h; omega
theorem world_stage {w : World} (h : szWorld w ≤ 1048576) : w.stage.length ≤ 1048576 := by have := size_len (f := szDialed) (xs := w.stage); unfold szWorld at h; omega
theorem beqI (a b : Int) : (a == b) = decide (a = b) := by by_cases h : a = b <;> simp [h]
end Go.Eng.T

namespace Go.Eng.T
open Go.Lib
set_option maxRecDepth 20000
set_option maxHeartbeats 1000000

def bts (l : List UInt8) : ByteArray := ⟨l.toArray⟩
@[simp] theorem bts_size (l : List UInt8) : (bts l).size = l.length := by simp [bts, ByteArray.size]
@[simp] theorem bts_app (a b : List UInt8) : bts a ++ bts b = bts (a ++ b) := by
  apply ByteArray.ext
  simp [bts]
@[simp] theorem bts_lit (l : List UInt8) : ByteArray.mk l.toArray = bts l := rfl
@[simp] theorem bts_nil : ByteArray.mk #[] = bts [] := rfl
abbrev Sb (l : List UInt8) : V := .sc (.string (bts l))
def strs (ls : List (List UInt8)) : List V := ls.map fun l => Sb l
@[simp high] theorem strs_len (xs : List (List UInt8)) : (strs xs).length = xs.length := by simp [strs]
@[simp] theorem strs_nil : strs [] = [] := rfl
@[simp] theorem strs_ro (xs : List (List UInt8)) (k : Nat) : (strs xs).map (roCell k) = strs xs := by simp [strs, Function.comp_def, roCell]
@[simp] theorem strs_push (xs : List (List UInt8)) (l : List UInt8) : strs xs ++ [V.sc (.string (bts l))] = strs (xs ++ [l]) := by simp [strs]

theorem itoa_len {n : Int} (h : rgI n) : (itoa n).length ≤ 20 := by
  have key : ∀ u : Nat, u ≤ 9223372036854775808 → (decDigits u).length ≤ 19 := by
    intro u hu
    rw [decDigits_length]
    by_cases h0 : nDigits u ≤ 19
    · exact h0
    have h1 : ¬ u < 10 := by intro h2; rw [nDigits_small h2] at h0; omega
    have h2 := nDigits_unique 18 u
    by_cases h3 : 10 ^ 18 ≤ u
    · have := h2 h3 (by omega); omega
    · have h4 : ∀ k, ∀ v : Nat, v < 10 ^ (k + 1) → nDigits v ≤ k + 1 := by
        intro k
        induction k with
        | zero => intro v hv; rw [nDigits_small (by omega)]; omega
        | succ k ih =>
          intro v hv
          by_cases h5 : v < 10
          · rw [nDigits_small h5]; omega
          · rw [nDigits_big h5]
            have := ih (v / 10) (by rw [Nat.pow_succ] at hv; omega)
            omega
      have := h4 17 u (by omega)
      omega
  unfold rgI at h
  unfold itoa
  split
  · have := key n.natAbs (by omega)
    simp only [List.length_cons]; omega
  · have := key n.toNat (by omega)
    omega

abbrev FormatIntS (R : Rel) : Prop := ∀ n : Int, rgI n → R [I n] [] (Sb (itoa n)) []
abbrev JoinS (R : Rel) : Prop := ∀ (ls : List (List UInt8)) (sep : List UInt8), ls.length ≤ 1048576 → (join ls sep).length ≤ 140737488355328 → R [.sl 1 1 ls.length (strs ls), Sb sep] [] (Sb (join ls sep)) []
theorem iFormatInt_b (D : Dn) (hA : FormatIntS (D gstrconv_Itoa)) : FormatIntS (Body D simpl_FormatInt) := by
  intro n h
  simp -implicitDefEqProofs
  refine callQ_of (hA n h) ?_
  simp -implicitDefEqProofs
theorem dd_step {u : Nat} (h : ¬ u < 10) : decDigits u = decDigits (u / 10) ++ [UInt8.ofNat (48 + u % 10)] := by
  rw [decDigits, dif_neg h]
theorem tdiv_abs (x : Int) : (x.tdiv 10).natAbs = x.natAbs / 10 := by
  rw [Int.natAbs_tdiv]; rfl
theorem tmod_abs (x : Int) : (x.tmod 10).natAbs = x.natAbs % 10 := by
  rw [Int.natAbs_tmod]; rfl
theorem sFormatInt_b (D : Dn) : FormatIntS (Body D sspec_FormatInt) := by
  intro n h
  have hlen := itoa_len h
  unfold rgI at h
  by_cases h0 : n = 0
  · subst h0
    have e : itoa 0 = [48] := by unfold itoa decDigits; rfl
    simp -implicitDefEqProofs [e]
  have hmain : (decDigits n.natAbs).length ≤ 20 := by
    unfold itoa at hlen
    split at hlen
    · simp only [List.length_cons] at hlen; omega
    · rw [show n.natAbs = n.toNat by omega]; exact hlen
  simp -implicitDefEqProofs [h0]
  refine swp_loop (fun k st => ∃ (x : Int) (s : List UInt8) (o : O), k = x.natAbs ∧ x.natAbs ≤ n.natAbs ∧ rgI x ∧ (x = 0 → s = decDigits n.natAbs) ∧ (x ≠ 0 → decDigits n.natAbs = decDigits x.natAbs ++ s) ∧ st = ⟨[I n, .undef, Sb s, I x, .undef, .undef, .undef, .undef, .undef], [o]⟩) ?_ n.natAbs _ ⟨n, [], .free, rfl, Nat.le_refl _, h, fun e => absurd e h0, fun _ => by simp, by simp⟩
  intro k st ⟨x, s, o, hk, hxn, hx, hz, hnz, hs⟩
  subst hs
  unfold rgI at hx
  by_cases hx0 : x = 0
  · have e := hz hx0
    subst hx0
    by_cases hneg : n < 0
    · have e2 : itoa n = [45] ++ s := by unfold itoa; rw [if_pos hneg, e]; rfl
      have hb : 1 + s.length ≤ 1099511627776 := by rw [e]; omega
      simp -implicitDefEqProofs [hneg, e2, hb]
    · have e2 : itoa n = s := by unfold itoa; rw [if_neg hneg, e]; rw [show n.natAbs = n.toNat by omega]
      simp -implicitDefEqProofs [hneg, e2]
  have e := hnz hx0
  have hsl : s.length ≤ 20 := by rw [e] at hmain; simp at hmain; omega
  have hd := tmod_abs x
  have hq := tdiv_abs x
  have hwq : IntKind.i64.wrap (x.tdiv 10) = x.tdiv 10 := wrap_id (by omega) (by omega)
  have hlt : x.natAbs % 10 < 10 := Nat.mod_lt _ (by omega)
  have hs1 : ∀ d : Nat, d < 10 → IntKind.i64.wrap (48 + (d : Int)) = 48 + (d : Int) := fun d hd => wrap_id (by omega) (by omega)
  have hs2 : ∀ d : Nat, d < 10 → IntKind.u8.wrap (48 + (d : Int)) = 48 + (d : Int) := fun d hd => by
    show (if (false && decide ((48 + (d : Int)) % (2 ^ 8 : Int) ≥ (2 ^ 7 : Int))) = true then (48 + (d : Int)) % (2 ^ 8 : Int) - (2 ^ 8 : Int) else (48 + (d : Int)) % (2 ^ 8 : Int)) = _
    rw [if_neg (by simp)]; omega
  have hb : 1 + s.length ≤ 1099511627776 := by omega
  have fin : ∀ s' : List UInt8, s' = UInt8.ofNat (48 + x.natAbs % 10) :: s → ((x.tdiv 10).natAbs < x.natAbs ∧ (x.tdiv 10).natAbs ≤ n.natAbs ∧ rgI (x.tdiv 10) ∧ (x.tdiv 10 = 0 → s' = decDigits n.natAbs) ∧ (x.tdiv 10 ≠ 0 → decDigits n.natAbs = decDigits (x.tdiv 10).natAbs ++ s')) := by
    intro s' hs'
    subst hs'
    refine ⟨by omega, by omega, by unfold rgI; omega, fun h1 => ?_, fun h1 => ?_⟩
    · have h2 : x.natAbs < 10 := by omega
      rw [e, decDigits_one h2, Nat.mod_eq_of_lt h2]; rfl
    · have h2 : ¬ x.natAbs < 10 := by omega
      rw [e, dd_step h2, hq]; simp
  by_cases hneg : x.tmod 10 < 0
  · have hd2 : x.tmod 10 = - ((x.natAbs % 10 : Nat) : Int) := by omega
    have hwn : IntKind.i64.wrap (-x.tmod 10) = ((x.natAbs % 10 : Nat) : Int) := by rw [hd2, wrap_id (by omega) (by omega)]; omega
    obtain ⟨d, hdd⟩ : ∃ d, d = x.natAbs % 10 := ⟨_, rfl⟩
    rw [← hdd] at hwn hlt fin
    simp -implicitDefEqProofs [hx0, hneg, hwn, hs1 d hlt, hs2 d hlt, hb, hwq, bstrV, content, bytesOf?, byteOf?]
    obtain ⟨f1, f2, f3, f4, f5⟩ := fin _ rfl
    exact ⟨(x.tdiv 10).natAbs, by omega, x.tdiv 10, rfl, f2, f3, _, f4, f5, by rw [show (48 + (d : Int)).toNat = 48 + d by omega], rfl⟩
  · have hd2 : x.tmod 10 = ((x.natAbs % 10 : Nat) : Int) := by omega
    obtain ⟨d, hdd⟩ : ∃ d, d = x.natAbs % 10 := ⟨_, rfl⟩
    rw [← hdd] at hd2 hlt fin
    rw [hd2] at hneg
    simp -implicitDefEqProofs [hx0, hneg, hd2, hs1 d hlt, hs2 d hlt, hb, hwq, bstrV, content, bytesOf?, byteOf?]
    obtain ⟨f1, f2, f3, f4, f5⟩ := fin _ rfl
    exact ⟨(x.tdiv 10).natAbs, by omega, x.tdiv 10, rfl, f2, f3, _, f4, f5, by rw [show (48 + (d : Int)).toNat = 48 + d by omega], rfl⟩

/-- numbers, one behind the other -/
def joinI (xs : List Int) (sep : List UInt8) : List UInt8 := join (xs.map itoa) sep
theorem join_snoc (x : List UInt8) (r : List (List UInt8)) (y sep : List UInt8) : join (x :: r ++ [y]) sep = join (x :: r) sep ++ sep ++ y := by
  rw [List.cons_append, join_cons, join_cons]
  simp [joinTail]
theorem joinI_step {xs : List Int} {sep : List UInt8} {j : Nat} (h : j < xs.length) : joinI (xs.take (j + 1)) sep = (if j = 0 then [] else joinI (xs.take j) sep ++ sep) ++ itoa xs[j] := by
  have e : xs.take (j + 1) = xs.take j ++ [xs[j]] := by simp
  unfold joinI
  rw [e, List.map_append]
  by_cases h0 : j = 0
  · subst h0; simp [join_one]
  · rw [if_neg h0]
    cases hx : xs.take j with
    | nil => exact absurd (congrArg List.length hx) (by rw [List.length_take]; simp only [List.length_nil]; omega)
    | cons a r => exact join_snoc _ _ _ _
theorem joinI_len {xs : List Int} {sep : List UInt8} (hr : rgInts xs) (hs : sep.length ≤ 1) : (joinI xs sep).length ≤ 21 * xs.length := by
  have key : ∀ n, n ≤ xs.length → (joinI (xs.take n) sep).length ≤ 21 * n := by
    intro n
    induction n with
    | zero => intro _; simp [joinI, join_nil]
    | succ n ih =>
      intro h
      have h1 := ih (by omega)
      have h2 := itoa_len (hr xs[n] (by simp))
      rw [joinI_step (by omega)]
      split
      · simp; omega
      · simp; omega
  have := key xs.length (Nat.le_refl _)
  rwa [List.take_length] at this
theorem rg_take {xs : List Int} {j : Nat} (h : rgInts xs) : rgInts (xs.take j) := fun x hx => h x (List.mem_of_mem_take hx)
abbrev joinedS (R : Rel) : Prop := ∀ (xs : List Int) (sep : List UInt8), xs.length ≤ 1048576 → rgInts xs → sep.length ≤ 1 → R [.sl 1 1 xs.length (ints xs), Sb sep] [] (Sb (joinI xs sep)) []
theorem l39Join_b (D : Dn) (hF : FormatIntS (D gspec_FormatInt)) : joinedS (Body D sspec_l39Join) := by
  intro xs sep hl hr hs
  simp -implicitDefEqProofs
  refine swp_loop (fun k st => ∃ j, j + k = xs.length ∧ st = ⟨[.sl 1 1 xs.length (ints xs), Sb sep, .undef, Sb (joinI (xs.take j) sep), .sc (.int .i64 j), .undef, .undef], []⟩) ?_ xs.length _ ⟨0, by simp, by simp [joinI, join_nil]⟩
  intro k st ⟨j, hj, hst⟩
  subst hst
  by_cases hjn : j < xs.length
  · have hw : IntKind.i64.wrap ((j : Int) + 1) = (j + 1 : Nat) := by rw [wrap_id (by omega) (by omega)]; simp
    have hstep := joinI_step (sep := sep) hjn
    have h1 := joinI_len (rg_take (j := j) hr) hs
    have h3 : (xs.take j).length ≤ j := by simp; omega
    have h2 := itoa_len (hr xs[j] (by simp))
    have b1 : (joinI (xs.take j) sep).length + sep.length ≤ 1099511627776 := by omega
    by_cases h0 : j = 0
    · subst h0
      rw [if_pos rfl] at hstep
      have b2 : (joinI [] sep).length + (itoa xs[0]).length ≤ 1099511627776 := by simp [joinI, join_nil]; omega
      have b3 : joinI [] sep = [] := rfl
      simp -implicitDefEqProofs [hjn]
      refine callQ_of (hF xs[0] (hr _ (by simp))) ?_
      simp -implicitDefEqProofs [b2]
      exact ⟨k - 1, by omega, 1, by omega, by rw [hstep, b3], by simpa using hw⟩
    · rw [if_neg h0] at hstep
      have h0' : (0 : Int) < j := by omega
      have h0'' : 0 < j := by omega
      have b2 : (joinI (xs.take j) sep).length + sep.length + (itoa xs[j]).length ≤ 1099511627776 := by omega
      have b2' : (joinI (xs.take j) sep).length + (sep.length + (itoa xs[j]).length) ≤ 1099511627776 := by omega
      simp -implicitDefEqProofs [hjn, h0', h0'', b1]
      refine callQ_of (hF xs[j] (hr _ (by simp))) ?_
      simp -implicitDefEqProofs [b2, b2']
      exact ⟨k - 1, by omega, j + 1, by omega, by rw [hstep]; simp, by simp [hw]⟩
  · obtain rfl : j = xs.length := by omega
    simp -implicitDefEqProofs
theorem joined_b (D : Dn) (hF : FormatIntS (D gimpl_FormatInt)) (hJ : JoinS (D gstrings_Join)) : joinedS (Body D simpl_joined) := by
  intro xs sep hl hr hs
  simp -implicitDefEqProofs
  refine swp_loop (fun k st => ∃ j v4 o1 o2, j + k = xs.length ∧ st = ⟨[.undef, Sb sep, .undef, .arr 3, v4, .sl 1 1 xs.length (ints xs), .sc (.int .i64 xs.length), .sc (.int .i64 j), .undef], [.free, o1, o2, .arr 1 0 j (strs ((xs.map itoa).take j))]⟩) ?_ xs.length _ ⟨0, .undef, .free, .free, by simp, by simp⟩
  intro k st ⟨j, v4, o1, o2, hj, hst⟩
  subst hst
  by_cases hjn : j < xs.length
  · have hw : IntKind.i64.wrap ((j : Int) + 1) = (j + 1 : Nat) := by rw [wrap_id (by omega) (by omega)]; simp
    have hjl : min j xs.length = j := by omega
    have b1 : (j + 1) * 16 ≤ 1099511627776 := by omega
    have hstep : strs ((xs.map itoa).take j ++ [itoa xs[j]]) = strs ((xs.map itoa).take (j + 1)) := by
      rw [← List.take_append_getElem (by simpa using hjn)]; simp
    simp -implicitDefEqProofs [hjn]
    refine callQ_of (hF xs[j] (hr _ (by simp))) ?_
    simp -implicitDefEqProofs [hjl, b1]
    exact ⟨k - 1, by omega, j + 1, by omega, by simp [hw], rfl, hstep⟩
  · obtain rfl : j = xs.length := by omega
    have e : (xs.map itoa).take xs.length = xs.map itoa := List.take_of_length_le (by simp)
    have e2 : (xs.map itoa).length = xs.length := by simp
    have hj := hJ (xs.map itoa) sep (by simpa using hl) (by have := joinI_len hr hs; unfold joinI at this; omega)
    rw [e2] at hj
    simp -implicitDefEqProofs [e]
    refine callQ_of hj ?_
    simp -implicitDefEqProofs [joinI]
end Go.Eng.T

namespace Go.Eng.T
open Go.Lib
set_option maxRecDepth 20000
set_option maxHeartbeats 1000000

theorem ifS {α : Type} {a : Nat} {c d : α} (h : a ≤ 1099511627776) : (if a ≤ 1099511627776 then c else d) = c := if_pos h
theorem ifL {α : Type} {a : Nat} {c d : α} (h : a < 1099511627776) : (if a < 1099511627776 then c else d) = c := if_pos h

def fmtList (xs : List Int) : List UInt8 := if xs = [] then [45] else joinI xs [32]
theorem fmtList_len {xs : List Int} (hr : rgInts xs) : (fmtList xs).length ≤ 21 * xs.length + 1 := by
  unfold fmtList
  split
  · simp
  · have := joinI_len (sep := [32]) hr (by simp); omega
abbrev FormatListS (R : Rel) : Prop := ∀ xs : List Int, xs.length ≤ 1048576 → rgInts xs → R [.sl 1 1 xs.length (ints xs)] [] (Sb (fmtList xs)) []
def fmtDeal (d : Deal) : List UInt8 := if d.ok = true then [118] ++ itoa d.version ++ (if d.tags = [] then [] else [58] ++ joinI d.tags [44]) else [110, 111]
theorem fmtDeal_len {d : Deal} (hv : rgI d.version) (hr : rgInts d.tags) : (fmtDeal d).length ≤ 21 * d.tags.length + 23 := by
  have h1 := itoa_len hv
  have h2 := joinI_len (sep := [44]) hr (by simp)
  unfold fmtDeal
  split
  · split <;> simp <;> omega
  · simp
abbrev FormatDealS (R : Rel) : Prop := ∀ d : Deal, d.tags.length ≤ 1048576 → rgI d.version → rgInts d.tags → R [arg (eDeal d)] [] (Sb (fmtDeal d)) []
def fmtDialed (d : Dialed) : List UInt8 := fmtDeal d.deal ++ [47] ++ itoa d.tries ++ (if d.up = [] then [] else [33] ++ joinI d.up [44])
abbrev FormatDialedS (R : Rel) : Prop := ∀ d : Dialed, d.deal.tags.length ≤ 1048576 → d.up.length ≤ 1048576 → rgI d.deal.version → rgInts d.deal.tags → rgI d.tries → rgInts d.up → R [arg (eDialed d)] [] (Sb (fmtDialed d)) []
def fmtRollout (r : Rollout) : List UInt8 := [118] ++ itoa r.version ++ [32] ++ joinI r.stages [44] ++ (if r.off = true then [111, 102, 102] else [64] ++ itoa r.pos)
theorem fmtRollout_len {r : Rollout} (hv : rgI r.version) (hr : rgInts r.stages) (hp : rgI r.pos) : (fmtRollout r).length ≤ 21 * r.stages.length + 50 := by
  have h1 := itoa_len hv
  have h2 := joinI_len (sep := [44]) hr (by simp)
  have h3 := itoa_len hp
  unfold fmtRollout
  split <;> simp <;> omega
abbrev FormatRolloutS (R : Rel) : Prop := ∀ r : Rollout, r.stages.length ≤ 1048576 → rgI r.version → rgInts r.stages → rgI r.pos → R [arg (eRollout r)] [] (Sb (fmtRollout r)) []
theorem sFormatRollout_b (D : Dn) (hF : FormatIntS (D gspec_FormatInt)) (hJ : joinedS (D gspec_l39Join)) : FormatRolloutS (Body D sspec_FormatRollout) := by
  intro r hl hv hr hp
  have h1 := itoa_len hv
  have h2 := joinI_len (sep := [44]) hr (by simp)
  have h3 := itoa_len hp
  simp -implicitDefEqProofs
  refine callQ_of (hF r.version hv) ?_
  simp -implicitDefEqProofs (disch := first | omega | simp) [ifS, ifL, fmtRollout]
  refine callQ_of (hJ r.stages [44] hl hr (by simp)) ?_
  by_cases ho : r.off = true
  · simp -implicitDefEqProofs (disch := first | omega | simp) [ifS, ifL, ho, fmtRollout]
  · simp -implicitDefEqProofs (disch := first | omega | simp) [ifS, ifL, ho, fmtRollout]
    refine callQ_of (hF r.pos hp) ?_
    simp -implicitDefEqProofs (disch := first | omega | simp) [ifS, ifL, ho, fmtRollout]
theorem iFormatRollout_b (D : Dn) (hF : FormatIntS (D gimpl_FormatInt)) (hJ : joinedS (D gimpl_joined)) : FormatRolloutS (Body D simpl_FormatRollout) := by
  intro r hl hv hr hp
  have h1 := itoa_len hv
  have h2 := joinI_len (sep := [44]) hr (by simp)
  have h3 := itoa_len hp
  simp -implicitDefEqProofs
  refine callQ_of (hF r.version hv) ?_
  simp -implicitDefEqProofs (disch := first | omega | simp) [ifS, ifL, fmtRollout]
  refine callQ_of (hJ r.stages [44] hl hr (by simp)) ?_
  by_cases ho : r.off = true
  · simp -implicitDefEqProofs (disch := first | omega | simp) [ifS, ifL, ho, fmtRollout]
  · simp -implicitDefEqProofs (disch := first | omega | simp) [ifS, ifL, ho, fmtRollout]
    refine callQ_of (hF r.pos hp) ?_
    simp -implicitDefEqProofs (disch := first | omega | simp) [ifS, ifL, ho, fmtRollout]

def fmtEnd (e : Endpoint) : List UInt8 := fmtList e.versions ++ [124] ++ fmtList e.tags ++ [124] ++ itoa (e.path.length : Int)
abbrev FormatEndS (R : Rel) : Prop := ∀ e : Endpoint, e.versions.length ≤ 1048576 → rgInts e.versions → e.tags.length ≤ 1048576 → rgInts e.tags → e.path.length ≤ 1048576 → R [arg (eEndpoint e)] [] (Sb (fmtEnd e)) []
end Go.Eng.T

namespace Go.Eng.T
open Go.Lib
set_option maxRecDepth 20000
set_option maxHeartbeats 2000000

theorem joinI3 (a b c : Int) : joinI [a, b, c] [32] = itoa a ++ 32 :: (itoa b ++ 32 :: itoa c) := by
  unfold joinI
  simp [join_cons, joinTail]
def fmtWorld (w : World) : List UInt8 := itoa w.now ++ [32] ++ joinI w.server [44] ++ [32] ++ fmtRollout w.rollout ++ [32] ++ joinI [(w.ends.length : Int), (w.log.length : Int), w.hurt] [32]
abbrev FormatWorldS (R : Rel) : Prop := ∀ w : World, w.server.length ≤ 1048576 → rgInts w.server → w.rollout.stages.length ≤ 1048576 → rgI w.rollout.version → rgInts w.rollout.stages → rgI w.rollout.pos → w.ends.length ≤ 1048576 → w.log.length ≤ 1048576 → rgI w.now → rgI w.hurt → R [arg (eWorld w)] [] (Sb (fmtWorld w)) []
theorem sFormatWorld_b (D : Dn) (hF : FormatIntS (D gspec_FormatInt)) (hJ : joinedS (D gspec_l39Join)) (hR : FormatRolloutS (D gspec_FormatRollout)) : FormatWorldS (Body D sspec_FormatWorld) := by
  intro w hs hrs hst hv hrst hp he hlg hn hh
  have n1 : rgI (w.ends.length : Int) := by unfold rgI; omega
  have n2 : rgI (w.log.length : Int) := by unfold rgI; omega
  have l1 := itoa_len hn
  have l2 := joinI_len (sep := [44]) hrs (by simp)
  have l3 := fmtRollout_len hv hrst hp
  have l4 := itoa_len n1
  have l5 := itoa_len n2
  have l6 := itoa_len hh
  simp -implicitDefEqProofs
  refine callQ_of (hF w.now hn) ?_
  simp -implicitDefEqProofs (disch := first | omega | simp) [ifS, ifL]
  refine callQ_of (hJ w.server [44] hs hrs (by simp)) ?_
  simp -implicitDefEqProofs (disch := first | omega | simp) [ifS, ifL]
  refine callQ_of (hR w.rollout hst hv hrst hp) ?_
  simp -implicitDefEqProofs (disch := first | omega | simp) [ifS, ifL]
  refine callQ_of (hF (w.ends.length : Int) n1) ?_
  simp -implicitDefEqProofs (disch := first | omega | simp) [ifS, ifL]
  refine callQ_of (hF (w.log.length : Int) n2) ?_
  simp -implicitDefEqProofs (disch := first | omega | simp) [ifS, ifL]
  refine callQ_of (hF w.hurt hh) ?_
  simp -implicitDefEqProofs (disch := first | omega | simp) [ifS, ifL, fmtWorld, joinI3]
theorem iFormatWorld_b (D : Dn) (hF : FormatIntS (D gimpl_FormatInt)) (hJ : joinedS (D gimpl_joined)) (hR : FormatRolloutS (D gimpl_FormatRollout)) : FormatWorldS (Body D simpl_FormatWorld) := by
  intro w hs hrs hst hv hrst hp he hlg hn hh
  have n1 : rgI (w.ends.length : Int) := by unfold rgI; omega
  have n2 : rgI (w.log.length : Int) := by unfold rgI; omega
  have n3 : rgInts [(w.ends.length : Int), (w.log.length : Int), w.hurt] := by
    intro x hx
    simp only [List.mem_cons, List.not_mem_nil, or_false] at hx
    rcases hx with rfl | rfl | rfl
    · exact n1
    · exact n2
    · exact hh
  have l1 := itoa_len hn
  have l2 := joinI_len (sep := [44]) hrs (by simp)
  have l3 := fmtRollout_len hv hrst hp
  have l4 := itoa_len n1
  have l5 := itoa_len n2
  have l6 := itoa_len hh
  have hj := hJ [(w.ends.length : Int), (w.log.length : Int), w.hurt] [32] (by simp) n3 (by simp)
  have l7 := joinI_len (sep := [32]) n3 (by simp)
  generalize hjj : joinI [(w.ends.length : Int), (w.log.length : Int), w.hurt] [32] = jj at hj l7
  simp at l7
  simp -implicitDefEqProofs
  refine callQ_of (hF w.now hn) ?_
  simp -implicitDefEqProofs (disch := first | omega | simp) [ifS, ifL]
  refine callQ_of (hJ w.server [44] hs hrs (by simp)) ?_
  simp -implicitDefEqProofs (disch := first | omega | simp) [ifS, ifL]
  refine callQ_of (hR w.rollout hst hv hrst hp) ?_
  simp -implicitDefEqProofs (disch := first | omega | simp) [ifS, ifL]
  refine callQ_of hj ?_
  simp -implicitDefEqProofs (disch := first | omega | simp) [ifS, ifL, fmtWorld, hjj]
end Go.Eng.T

namespace Go.Eng.T

theorem nums_push : ∀ (n : Nat) (k : Int), nums n k ++ [k + n] = nums (n + 1) k
  | 0, k => by simp [nums]
  | n + 1, k => by
    have := nums_push n (k + 1)
    simp only [nums, List.cons_append]
    rw [show k + ((n + 1 : Nat) : Int) = k + 1 + (n : Int) by omega, this]
    rfl
theorem numsJ_set {xs : List Int} {k : Int} {j : Nat} (h : j < xs.length) : (nums j k ++ xs.drop j).set j (k + j) = nums (j + 1) k ++ xs.drop (j + 1) := by
  rw [List.set_append_right _ _ (by simp), nums_len, Nat.sub_self, List.drop_eq_getElem_cons h, List.set_cons_zero, ← nums_push, List.append_assoc]
  rfl

abbrev markIntSS (R : Rel) : Prop := ∀ (xs : List Int) (k : Int), 0 ≤ k → k + xs.length ≤ 4611686018427387904 → R [.arr 0, I k] [.arr 1 0 xs.length (ints xs)] (I (k + xs.length)) [.arr 1 0 xs.length (ints (nums xs.length k))]
abbrev heldIntSS (R : Rel) : Prop := ∀ (n : Nat) (k : Int), 0 ≤ k → k + n ≤ 4611686018427387904 → R [.sl 1 1 n (ints (nums n k)), I k] [] (I (k + n)) []
end Go.Eng.T

namespace Go.Eng.T
abbrev markBoxSS (R : Rel) : Prop := ∀ (xs : List Box) (k : Int), 0 ≤ k → k + mcL mcBox xs ≤ 4611686018427387904 → R [.arr 0, I k] [.arr 4 0 xs.length (xs.flatMap eBox)] (I (k + mcL mcBox xs)) [.arr 4 0 xs.length ((mkL mcBox mkBox xs k).flatMap eBox)]
abbrev heldBoxSS (R : Rel) : Prop := ∀ (xs : List Box) (k : Int), 0 ≤ k → k + mcL mcBox xs ≤ 4611686018427387904 → R [.sl 1 4 xs.length ((mkL mcBox mkBox xs k).flatMap eBox), I k] [] (I (k + mcL mcBox xs)) []
abbrev markEndpointSS (R : Rel) : Prop := ∀ (xs : List Endpoint) (k : Int), 0 ≤ k → k + mcL mcEndpoint xs ≤ 4611686018427387904 → R [.arr 0, I k] [.arr 4 0 xs.length (xs.flatMap eEndpoint)] (I (k + mcL mcEndpoint xs)) [.arr 4 0 xs.length ((mkL mcEndpoint mkEndpoint xs k).flatMap eEndpoint)]
abbrev heldEndpointSS (R : Rel) : Prop := ∀ (xs : List Endpoint) (k : Int), 0 ≤ k → k + mcL mcEndpoint xs ≤ 4611686018427387904 → R [.sl 1 4 xs.length ((mkL mcEndpoint mkEndpoint xs k).flatMap eEndpoint), I k] [] (I (k + mcL mcEndpoint xs)) []
end Go.Eng.T

namespace Go.Eng.T
set_option maxRecDepth 20000
abbrev markDialedSS (R : Rel) : Prop := ∀ (xs : List Dialed) (k : Int), 0 ≤ k → k + mcL mcDialed xs ≤ 4611686018427387904 → R [.arr 0, I k] [.arr 5 0 xs.length (xs.flatMap eDialed)] (I (k + mcL mcDialed xs)) [.arr 5 0 xs.length ((mkL mcDialed mkDialed xs k).flatMap eDialed)]
abbrev heldDialedSS (R : Rel) : Prop := ∀ (xs : List Dialed) (k : Int), 0 ≤ k → k + mcL mcDialed xs ≤ 4611686018427387904 → R [.sl 1 5 xs.length ((mkL mcDialed mkDialed xs k).flatMap eDialed), I k] [] (I (k + mcL mcDialed xs)) []
abbrev markLoggedSS (R : Rel) : Prop := ∀ (xs : List Logged) (k : Int), 0 ≤ k → k + mcL mcLogged xs ≤ 4611686018427387904 → R [.arr 0, I k] [.arr 8 0 xs.length (xs.flatMap eLogged)] (I (k + mcL mcLogged xs)) [.arr 8 0 xs.length ((mkL mcLogged mkLogged xs k).flatMap eLogged)]
abbrev heldLoggedSS (R : Rel) : Prop := ∀ (xs : List Logged) (k : Int), 0 ≤ k → k + mcL mcLogged xs ≤ 4611686018427387904 → R [.sl 1 8 xs.length ((mkL mcLogged mkLogged xs k).flatMap eLogged), I k] [] (I (k + mcL mcLogged xs)) []
end Go.Eng.T

namespace Go.Eng.T
set_option maxRecDepth 20000
abbrev markRolloutS (R : Rel) : Prop := ∀ (x : Rollout) (k : Int), 0 ≤ k → k + mcRollout x ≤ 4611686018427387904 → R [.agg [.sc (.int .i64 x.version), .arr 0, .sc (.int .i64 x.pos), .sc (.bool x.off)], I k] [.arr 1 0 x.stages.length (ints (x.stages))] (I (k + mcRollout x)) [.arr 1 0 x.stages.length (ints ((mkRollout x k).stages))]
abbrev heldRolloutS (R : Rel) : Prop := ∀ (x : Rollout) (k : Int), 0 ≤ k → k + mcRollout x ≤ 4611686018427387904 → R [arg (eRollout (mkRollout x k)), I k] [] (I (k + mcRollout x)) []
abbrev markWorldS (R : Rel) : Prop := ∀ (x : World) (k : Int), 0 ≤ k → k + mcWorld x ≤ 4611686018427387904 → R [.agg [.arr 0, .arr 1, .sc (.int .i64 x.key), .arr 2, .sc (.int .i64 x.rollout.version), .arr 3, .sc (.int .i64 x.rollout.pos), .sc (.bool x.rollout.off), .sc (.int .i64 x.least), .sc (.int .i64 x.percent), .arr 4, .arr 5, .sc (.int .i64 x.now), .sc (.int .i64 x.hurt), .sc (.int .i64 x.reached)], I k] [.arr 1 0 x.server.length (ints (x.server)), .arr 1 0 x.tags.length (ints (x.tags)), .arr 4 0 x.ends.length ((x.ends).flatMap eEndpoint), .arr 1 0 x.rollout.stages.length (ints (x.rollout.stages)), .arr 5 0 x.stage.length ((x.stage).flatMap eDialed), .arr 8 0 x.log.length ((x.log).flatMap eLogged)] (I (k + mcWorld x)) [.arr 1 0 x.server.length (ints ((mkWorld x k).server)), .arr 1 0 x.tags.length (ints ((mkWorld x k).tags)), .arr 4 0 x.ends.length (((mkWorld x k).ends).flatMap eEndpoint), .arr 1 0 x.rollout.stages.length (ints ((mkWorld x k).rollout.stages)), .arr 5 0 x.stage.length (((mkWorld x k).stage).flatMap eDialed), .arr 8 0 x.log.length (((mkWorld x k).log).flatMap eLogged)]
abbrev heldWorldS (R : Rel) : Prop := ∀ (x : World) (k : Int), 0 ≤ k → k + mcWorld x ≤ 4611686018427387904 → R [arg (eWorld (mkWorld x k)), I k] [] (I (k + mcWorld x)) []
end Go.Eng.T

namespace Go.Eng.T
set_option maxRecDepth 20000

abbrev cpRolloutS (R : Rel) : Prop := ∀ r : Rollout, szRollout r ≤ 1048576 → R [arg (eRollout r)] [] (.agg (eRollout r)) []
abbrev cpDialedS (R : Rel) : Prop := ∀ d : Dialed, szDialed d ≤ 1048576 → R [arg (eDialed d)] [] (.agg (eDialed d)) []
theorem take_flat {α : Type} {f : α → List V} {xs : List α} {j : Nat} (h : j < xs.length) : (xs.take j).flatMap f ++ f xs[j] = (xs.take (j + 1)).flatMap f := by
  have e : xs.take (j + 1) = xs.take j ++ [xs[j]] := by simp
  rw [e, List.flatMap_append]; simp
abbrev cpPathS (R : Rel) : Prop := ∀ xs : List Box, sumF szBox xs ≤ 1048576 → R [.sl 1 4 xs.length (xs.flatMap eBox)] [] (.sl 0 4 xs.length (xs.flatMap eBox)) []
abbrev cpEndpointS (R : Rel) : Prop := ∀ x : Endpoint, szEndpoint x ≤ 1048576 → R [arg (eEndpoint x)] [] (.agg (eEndpoint x)) []
end Go.Eng.T

namespace Go.Eng.T
set_option maxRecDepth 20000
theorem world_roll' {w : World} (h : szWorld w ≤ 1048576) : szRollout w.rollout ≤ 1048576 := by unfold szWorld at h; omega
theorem world_szs {w : World} (h : szWorld w ≤ 1048576) : w.server.length ≤ 1048576 ∧ w.tags.length ≤ 1048576 ∧ sumF szEndpoint w.ends ≤ 1048576 ∧ sumF szDialed w.stage ≤ 1048576 ∧ sumF szLogged w.log ≤ 1048576 := by unfold szWorld at h; omega
abbrev cpWorldS (R : Rel) : Prop := ∀ w : World, szWorld w ≤ 1048576 → R [arg (eWorld w)] [] (.agg (eWorld w)) []
end Go.Eng.T

namespace Go.Eng.T
set_option maxRecDepth 20000
set_option maxHeartbeats 2000000
abbrev FnExactFormatListS (R : Rel) : Prop := ∀ (aL : List Int), lnInts aL → rgInts aL → R [.sl 1 1 aL.length (ints aL)] [] (B true) []
abbrev FnExactFormatDealS (R : Rel) : Prop := ∀ (aD : Deal), lnDeal aD → rgDeal aD → R [arg (eDeal aD)] [] (B true) []
abbrev FnExactFormatDialedS (R : Rel) : Prop := ∀ (aD : Dialed), lnDialed aD → rgDialed aD → R [arg (eDialed aD)] [] (B true) []
abbrev FnExactFormatRolloutS (R : Rel) : Prop := ∀ (aR : Rollout), lnRollout aR → rgRollout aR → R [arg (eRollout aR)] [] (B true) []
abbrev FnExactFormatEndS (R : Rel) : Prop := ∀ (aE : Endpoint), lnEndpoint aE → rgEndpoint aE → R [arg (eEndpoint aE)] [] (B true) []
abbrev FnExactFormatWorldS (R : Rel) : Prop := ∀ (aW : World), lnWorld aW → rgWorld aW → R [arg (eWorld aW)] [] (B true) []
theorem FnExactFormatWorld_b (D : Dn) (hs : FormatWorldS (D gspec_FormatWorld)) (hi : FormatWorldS (D gimpl_FormatWorld)) (hszWorld : szWorldS (D glaws_szWorld)) (htoWorld : toWorldS (D glaws_toWorld)) (heqWorld : eqWorldS (D glaws_eqWorld)) : FnExactFormatWorldS (Body D slaws_FnExactFormatWorld) := by
  intro aW l_aW w_aW
  simp -implicitDefEqProofs []
  refine callQ_of (hszWorld aW ((1048576 : Int)) (by omega) (by omega) l_aW) ?_
  by_cases g1 : (1048576 : Int) < ((szWorld aW : Nat) : Int)
  · simp -implicitDefEqProofs [szl_lt g1]
  have p1 : ¬ (1048576 : Int) - ((szWorld aW : Nat) : Int) < 0 := by omega
  simp -implicitDefEqProofs [szl_ge g1, p1]
  have hs' := hs aW (by have e := world_szs (w := aW) (by omega); have e2 := world_roll' (w := aW) (by omega); have e3 := size_len (f := szEndpoint) (xs := aW.ends); have e4 := size_len (f := szLogged) (xs := aW.log); unfold szRollout at e2; omega) w_aW.1 (by have e := world_szs (w := aW) (by omega); have e2 := world_roll' (w := aW) (by omega); have e3 := size_len (f := szEndpoint) (xs := aW.ends); have e4 := size_len (f := szLogged) (xs := aW.log); unfold szRollout at e2; omega) w_aW.2.2.2.2.1.1 w_aW.2.2.2.2.1.2.1 w_aW.2.2.2.2.1.2.2 (by have e := world_szs (w := aW) (by omega); have e2 := world_roll' (w := aW) (by omega); have e3 := size_len (f := szEndpoint) (xs := aW.ends); have e4 := size_len (f := szLogged) (xs := aW.log); unfold szRollout at e2; omega) (by have e := world_szs (w := aW) (by omega); have e2 := world_roll' (w := aW) (by omega); have e3 := size_len (f := szEndpoint) (xs := aW.ends); have e4 := size_len (f := szLogged) (xs := aW.log); unfold szRollout at e2; omega) w_aW.2.2.2.2.2.2.2.2.2.1 w_aW.2.2.2.2.2.2.2.2.2.2.1
  have hi' := hi aW (by have e := world_szs (w := aW) (by omega); have e2 := world_roll' (w := aW) (by omega); have e3 := size_len (f := szEndpoint) (xs := aW.ends); have e4 := size_len (f := szLogged) (xs := aW.log); unfold szRollout at e2; omega) w_aW.1 (by have e := world_szs (w := aW) (by omega); have e2 := world_roll' (w := aW) (by omega); have e3 := size_len (f := szEndpoint) (xs := aW.ends); have e4 := size_len (f := szLogged) (xs := aW.log); unfold szRollout at e2; omega) w_aW.2.2.2.2.1.1 w_aW.2.2.2.2.1.2.1 w_aW.2.2.2.2.1.2.2 (by have e := world_szs (w := aW) (by omega); have e2 := world_roll' (w := aW) (by omega); have e3 := size_len (f := szEndpoint) (xs := aW.ends); have e4 := size_len (f := szLogged) (xs := aW.log); unfold szRollout at e2; omega) (by have e := world_szs (w := aW) (by omega); have e2 := world_roll' (w := aW) (by omega); have e3 := size_len (f := szEndpoint) (xs := aW.ends); have e4 := size_len (f := szLogged) (xs := aW.log); unfold szRollout at e2; omega) w_aW.2.2.2.2.2.2.2.2.2.1 w_aW.2.2.2.2.2.2.2.2.2.2.1
  refine callQ_of (htoWorld aW (by omega)) ?_
  simp -implicitDefEqProofs [szl_ge g1, p1]
  refine callQ_of (hs') ?_
  simp -implicitDefEqProofs [szl_ge g1, p1]
  refine callQ_of (htoWorld aW (by omega)) ?_
  simp -implicitDefEqProofs [szl_ge g1, p1]
  refine callQ_of (hi') ?_
  simp -implicitDefEqProofs [szl_ge g1, p1]
  refine callQ_of (htoWorld aW (by omega)) ?_
  simp -implicitDefEqProofs [szl_ge g1, p1]
  refine callQ_of (heqWorld aW aW (by omega) (by omega)) ?_
  simp -implicitDefEqProofs [szl_ge g1, p1]
end Go.Eng.T

namespace Go.Eng
open Go.Lib Go.RowKit

/-- what is read only -/
inductive RdArgs (fid : Nat → Option FuncId) (w : World) : List V → List Value → Prop where
  | nil : RdArgs fid w [] []
  | sc {v : Value} {azs : List V} {xs : List Value} (h : RdArgs fid w azs xs) : RdArgs fid w (.sc v :: azs) (v :: xs)
  | sl {e len : Nat} {cells : List V} {x : Value} {azs : List V} {xs : List Value} (h1 : Rd fid w (· < w.heap.size) (.sl 1 e len cells) x) (h : RdArgs fid w azs xs) : RdArgs fid w (.sl 1 e len cells :: azs) (x :: xs)

def plainA : V → Prop
  | .sc _ => True
  | .sl 1 _ _ _ => True
  | _ => False

theorem rdArgs_of {F : Fr} {w : World} {β : Nat → Base} {own : Nat → Option (Nat × List Nat)} {H : Hp} (hw : w = F.w0) : ∀ {azs : List V} {xs : List Value}, (∀ a, a ∈ azs → plainA a) → Pw (VR F β own H w) azs xs → RdArgs F.fid w azs xs
  | [], xs, _, h => by rw [h.unnil]; exact .nil
  | a :: azs, xs, hp, h => by
    obtain ⟨x, r, rfl, h1, h2⟩ := h.uncons
    have ih := rdArgs_of hw (fun a ha => hp a (List.mem_cons_of_mem _ ha)) h2
    have ha := hp a (by simp)
    cases h1 with
    | sc h => exact .sc ih
    | @rd fl e len cells _ h3 h =>
      match fl, ha, h with
      | 1, _, h => exact .sl (Rd.move h (fun b hb => by rw [hw]; exact hb.1) (fun _ _ => rfl)) ih
    | _ => exact absurd ha (by simp [plainA])

theorem den_read {P : Program} {fid : Nat → Option FuncId} {G : Gl} {g : Nat} {args : List V} {v : Value} (hv : v.oneCell' = true) (hp' : ∀ a, a ∈ args → plainA a)
    (h : ∀ id, fid g = some id → ∀ w : World, (∀ b, G b → b < w.heap.size ∧ w.heap[b]? = G.is b) → ∀ xs, RdArgs fid w args xs → Calls P id xs.toArray w fun e w' => e = .returned v ∧ Below w.heap.size w w') : Den P fid G g args [] (.sc v) [] := by
  intro id hid F hF hG hb ht hn inv xs hx
  have hr := rdArgs_of (F := F) rfl hp' hx
  rw [hF] at hr
  refine (h id hid F.w0 (fun b hb => ?_) xs hr).mono fun e w' ⟨he, hw⟩ => ?_
  · have := inv.glob b (by rw [hG]; exact hb)
    exact ⟨this.1, by rw [← hG]; exact this.2.2⟩
  · subst he
    refine ⟨F.own0, ⟨hw.size, hw.os, hw.tape, hw.output, fun b hb _ => hw.block b hb, fun b p hb => ⟨Nat.lt_of_lt_of_le (inv.ownb b p hb).1 hw.size, fun _ => ?_⟩, .sc hv, hn.symm, fun i o hi => ?_⟩⟩
    · rw [hb]; simp
    · simp at hi

theorem below_grow {w : World} {k : Nat} {os : Array Obj} : Below w.heap.size w (Sort.grow (w.drewN k) os) :=
  ⟨rfl, rfl, rfl, by simp [Sort.grow, World.drewN], fun b hb => by simp [Sort.grow, World.drewN, Array.getElem?_append, hb]⟩

/-- a table that nobody writes reads azs it did -/
theorem tab_same {P : Program} {W w : World} {name : String} {k : IntKind} {zs : List Int} {b : Nat} (hg : P.globalNamed name = some b) (h : TabIs P W name k zs) (he : w.heap[b]? = W.heap[b]?) : TabIs P w name k zs := by
  unfold TabIs World.var? at *
  rw [hg] at h ⊢
  simp only [Option.bind_some] at h ⊢
  rw [he]
  exact h
theorem tab_of_laid {P : Program} {W : World} {name : String} {k : IntKind} {zs : List Int} {rest : List (String × DataW Unit)} {g : Nat} {t e : TypeId} {n : Nat} {ps : List MemPlace}
    (hg : P.globalNamed name = some g) (hty : (P.globals[g]?).map (·.type) = some t) (ht : P.underlying t = some (.array n e)) (he : P.underlying e = some (.int k)) (hce : P.cellsOf e = 1) (hct : P.cellsOf t = n)
    (h : DataW.LaidVars P W ((name, tabData k zs) :: rest) ps) : TabIs P W name k zs := by
  obtain ⟨g', t', cs, fuel, p, q, hg', ht', hvar, hd, _, _⟩ := h
  obtain rfl := Option.some.inj (hg.symm.trans hg')
  obtain rfl := Option.some.inj (hty.symm.trans ht')
  unfold TabIs
  rw [hvar, ← cells_of_tab ht he hce hct hd]
theorem laid_tail {P : Program} {W : World} {x : String × DataW Unit} {rest : List (String × DataW Unit)} {ps : List MemPlace} (h : DataW.LaidVars P W (x :: rest) ps) : ∃ q, DataW.LaidVars P W rest q := by
  obtain ⟨g', t', cs, fuel, p, q, hg', ht', hvar, hd, hr, _⟩ := h
  exact ⟨q, hr⟩
theorem tab_third {P : Program} {W : World} {name : String} {k : IntKind} {zs : List Int} {a b : String × DataW Unit} {rest : List (String × DataW Unit)} {g : Nat} {t e : TypeId} {n : Nat}
    (hg : P.globalNamed name = some g) (hty : (P.globals[g]?).map (·.type) = some t) (ht : P.underlying t = some (.array n e)) (he : P.underlying e = some (.int k)) (hce : P.cellsOf e = 1) (hct : P.cellsOf t = n)
    (h : laidMet P (a :: b :: (name, tabData k zs) :: rest) W) : TabIs P W name k zs := by
  obtain ⟨ps, h1, _⟩ := h
  obtain ⟨q1, h2⟩ := laid_tail h1
  obtain ⟨q2, h3⟩ := laid_tail h2
  exact tab_of_laid hg hty ht he hce hct h3
theorem tab_size {P : Program} {W : World} {name : String} {k : IntKind} {zs : List Int} {b : Nat} (hg : P.globalNamed name = some b) (h : TabIs P W name k zs) : b < W.heap.size := by
  unfold TabIs World.var? at h
  rw [hg] at h
  simp only [Option.bind_some] at h
  by_cases hb : b < W.heap.size
  · exact hb
  · rw [Array.getElem?_eq_none (by omega)] at h; cases h
end Go.Eng

namespace Go.Eng.T
open Go.Lib Go.RowKit

theorem itoa_den {P : Program} {fid : Nat → Option FuncId} {G : Gl} {g k b : Nat} {W : Go.World} (hid : fid g = some k) (hg : P.globalNamed "internal/strconv.uint64pow10" = some b) (hb : G b) (hW : G.is b = W.heap[b]?)
    (ht : TabIs P W "internal/strconv.uint64pow10" .u64 pow10Tab)
    (hc : ∀ n : Int, -9223372036854775808 ≤ n → n ≤ 9223372036854775807 → ∀ w : Go.World, TabIs P w "internal/strconv.uint64pow10" .u64 pow10Tab → Calls P k #[.int .i64 n] w fun e w' => e = .returned (.string ⟨(itoa n).toArray⟩) ∧ ∃ j os, w' = Sort.grow (w.drewN j) os) :
    FormatIntS (Den P fid G g) := by
  intro n hn
  refine den_read (v := .string (bts (itoa n))) rfl (fun a ha => ?_) ?_
  · simp only [List.mem_singleton] at ha; subst ha; trivial
  intro id hi w hw xs hx
  rw [hid] at hi
  cases hi
  cases hx with
  | sc h =>
    cases h
    refine (hc n hn.1 hn.2 w (tab_same hg ht ?_)).mono fun e w' ⟨he, j, os, hw'⟩ => ⟨he, ?_⟩
    · rw [(hw b hb).2, hW]
    · rw [hw']; exact below_grow

theorem join_den {P : Program} {fid : Nat → Option FuncId} {G : Gl} {g k : Nat} (hid : fid g = some k)
    (h0 : ∀ (a : Option Addr) (c : Nat) (sep : ByteArray) (w : Go.World), Calls P k #[.slice a 0 c, .string sep] w fun e w' => e = .returned (.string ⟨#[]⟩) ∧ w' = w)
    (hc : ∀ (bk o c : Nat) (xs : List ByteArray) (sep : ByteArray) (w : Go.World), (∀ (j : Nat) x, xs[j]? = some x → w.cell? ⟨bk, o + j, none⟩ = some (.string x)) → bk < w.heap.size → xs.length ≤ 140737488355328 → xs.length ≤ c → (join (xs.map (·.data.toList)) sep.data.toList).length ≤ 140737488355328 →
      Calls P k #[.slice (some ⟨bk, o, none⟩) xs.length c, .string sep] w fun e w' => e = .returned (.string ⟨(join (xs.map (·.data.toList)) sep.data.toList).toArray⟩) ∧ Below w.heap.size w w') :
    JoinS (Den P fid G g) := by
  intro ls sep hl hj
  refine den_read (v := .string (bts (join ls sep))) rfl (fun a ha => ?_) ?_
  · simp only [List.mem_cons, List.not_mem_nil, or_false] at ha
    rcases ha with rfl | rfl <;> trivial
  intro id hi w hw xs hx
  rw [hid] at hi
  cases hi
  cases hx with
  | sl h1 h2 =>
    cases h2 with
    | sc h3 =>
      cases h3
      cases h1 with
      | @sl _ _ _ _ a cap vs hle hwd hvl hm hcs =>
        have eb : ∀ l : List UInt8, (bts l).data.toList = l := fun l => rfl
        have em : (ls.map bts).map (·.data.toList) = ls := by rw [List.map_map]; exact (List.map_congr_left fun l _ => eb l).trans (List.map_id ls)
        have es : (bts sep).data.toList = sep := eb sep
        rcases hm with hm | ⟨b, o, rfl, hbk, hr⟩
        · have : ls = [] := by
            cases ls with
            | nil => rfl
            | cons x r => simp [strs] at hm
          subst this
          refine (h0 a cap (bts sep) w).mono fun e w' ⟨he, hw'⟩ => ⟨?_, by rw [hw']; exact Below.refl _ _⟩
          rw [he, join_nil]; rfl
        · have hvlen : vs.length = ls.length := by rw [hvl]; simp
          have := hc b o cap (ls.map bts) (bts sep) w (fun j x hx => ?_) hbk (by simp; omega) (by simpa using hle) (by rw [em, es]; exact hj)
          · rw [em, es] at this
            simp only [List.length_map] at this
            exact this
          · simp only [List.getElem?_map, Option.map_eq_some_iff] at hx
            obtain ⟨l, hl', rfl⟩ := hx
            have hj' : j < ls.length := by
              by_cases h : j < ls.length
              · exact h
              · rw [List.getElem?_eq_none (by omega)] at hl'; cases hl'
            rw [hr.2 j (by omega)]
            have hv : vs[j]? = some vs[j] := by simp
            rw [hv]
            have hrd := hcs j (Sb l) vs[j] (by simp [strs, hl']) hv
            generalize vs[j] = y at hrd ⊢
            cases hrd with
            | sc _ => rfl
end Go.Eng.T

namespace Go.Proofs
open Go.Shelf
def Tryd.lays156_ren : Go.Shelf.Ren := ⟨fun | 156 => 37 | 165 => 46 | 166 => 47 | 169 => 48 | 240 => 54 | 241 => 55 | 276 => 61 | 277 => 62 | n => n, fun | 31 => 83 | 9 => 9 | 3 => 3 | 4 => 4 | 0 => 0 | 20 => 20 | 72 => 94 | 76 => 98 | 70 => 92 | 37 => 71 | 75 => 97 | 127 => 109 | 164 => 117 | 5 => 5 | 80 => 100 | n => n, fun | n => n⟩
theorem Tryd.lays156 : Go.Proofs.Lays.n156 Tryd.prog Tryd.lays156_ren := {
  mixed := by kernel_rfl
  f156 := Tryd.func37.trans (congrArg some (by kernel_rfl))
  f165 := Tryd.func46.trans (congrArg some (by kernel_rfl))
  f166 := Tryd.func47.trans (congrArg some (by kernel_rfl))
  f169 := Tryd.func48.trans (congrArg some (by kernel_rfl))
  f240 := Tryd.func54.trans (congrArg some (by kernel_rfl))
  f241 := Tryd.func55.trans (congrArg some (by kernel_rfl))
  f276 := Tryd.func61.trans (congrArg some (by kernel_rfl))
  f277 := Tryd.func62.trans (congrArg some (by kernel_rfl))
  t0 := Tryd.underlying0
  a0 := Tryd.isAgg0
  z0 := Tryd.sizeOf0
  v0 := Tryd.zeroValue0
  t3 := Tryd.underlying3
  a3 := Tryd.isAgg3
  z3 := Tryd.sizeOf3
  v3 := Tryd.zeroValue3
  t4 := Tryd.underlying4
  a4 := Tryd.isAgg4
  z4 := Tryd.sizeOf4
  v4 := Tryd.zeroValue4
  t9 := Tryd.underlying9
  a9 := Tryd.isAgg9
  z9 := Tryd.sizeOf9
  v9 := Tryd.zeroValue9
  t20 := Tryd.underlying20
  a20 := Tryd.isAgg20
  z20 := Tryd.sizeOf20
  v20 := Tryd.zeroValue20
  t31 := Tryd.underlying83
  a31 := Tryd.isAgg83
  z31 := Tryd.sizeOf83
  v31 := Tryd.zeroValue83
  t37 := Tryd.underlying71
  a37 := Tryd.isAgg71
  z37 := Tryd.sizeOf71
  v37 := Tryd.zeroValue71
  t70 := Tryd.underlying92
  a70 := Tryd.isAgg92
  z70 := Tryd.sizeOf92
  v70 := Tryd.zeroValue92
  t72 := Tryd.underlying94
  a72 := Tryd.isAgg94
  z72 := Tryd.sizeOf94
  v72 := Tryd.zeroValue94
  t75 := Tryd.underlying97
  a75 := Tryd.isAgg97
  z75 := Tryd.sizeOf97
  v75 := Tryd.zeroValue97
  t76 := Tryd.underlying98
  a76 := Tryd.isAgg98
  z76 := Tryd.sizeOf98
  v76 := Tryd.zeroValue98
  t127 := Tryd.underlying109
  a127 := Tryd.isAgg109
  z127 := Tryd.sizeOf109
  v127 := Tryd.zeroValue109
  t164 := Tryd.underlying117
  a164 := Tryd.isAgg117
  z164 := Tryd.sizeOf117
  v164 := Tryd.zeroValue117 }
theorem Tryd.Builder_Extra_156 : Builder.Extra Tryd.prog Tryd.lays156_ren := {
  sizeBuilder := by kernel_rfl
  liesBuilder := by kernel_rfl
  t5 := Tryd.underlying5
  a5 := Tryd.isAgg5
  z5 := Tryd.sizeOf5
  v5 := Tryd.zeroValue5
  infoByte := by kernel_rfl
  cellsByte := by kernel_rfl
  sizeByte := by kernel_rfl
  neB5 := by decide }
open Go.RowKit in
theorem Tryd.strings_Join_none (a : Option Addr) (c : Nat) (sep : ByteArray) (w : World) :
    Calls Tryd.prog 37 #[.slice a 0 c, .string sep] w fun e w' => e = .returned (.string ⟨#[]⟩) ∧ w' = w := Any.strings_Join_none Tryd.lays156 Tryd.Builder_Extra_156 a c sep w
open Go.RowKit in
theorem Tryd.strings_Join (bk o c : Nat) (xs : List ByteArray) (sep : ByteArray) (w : World) (hcells : ∀ (j : Nat) x, xs[j]? = some x → w.cell? ⟨bk, o + j, none⟩ = some (.string x)) (hbk : bk < w.heap.size) (hN : xs.length ≤ 140737488355328) (hcap : xs.length ≤ c) (hlen : (Lib.join (xs.map (·.data.toList)) sep.data.toList).length ≤ 140737488355328) :
    Calls Tryd.prog 37 #[.slice (some ⟨bk, o, none⟩) xs.length c, .string sep] w fun e w' => e = .returned (.string ⟨(Lib.join (xs.map (·.data.toList)) sep.data.toList).toArray⟩) ∧ Below w.heap.size w w' := Any.strings_Join Tryd.lays156 Tryd.Builder_Extra_156 bk o c xs sep w hcells hbk hN hcap hlen
def Tryd.laysM171_ren : Go.Shelf.Ren := ⟨fun | 171 => 36 | 243 => 45 | 246 => 53 | 283 => 57 | 284 => 58 | 285 => 59 | 286 => 60 | 129 => 64 | 317 => 63 | 318 => 65 | 319 => 66 | 320 => 67 | 337 => 68 | 338 => 69 | n => n, fun | 3 => 3 | 9 => 9 | 2 => 2 | 4 => 4 | 171 => 111 | 0 => 0 | 53 => 112 | 37 => 71 | 5 => 5 | 173 => 115 | 212 => 122 | 51 => 123 | 20 => 20 | 213 => 124 | 46 => 126 | 232 => 129 | 233 => 130 | n => n, fun | 17 => 0 | 18 => 2 | 19 => 3 | n => n⟩
theorem Tryd.laysM171 : Go.Proofs.LaysM.n171 Tryd.prog Tryd.laysM171_ren := {
  mixed := by kernel_rfl
  f129 := Tryd.func64.trans (congrArg some (by kernel_rfl))
  f171 := Tryd.func36.trans (congrArg some (by kernel_rfl))
  f243 := Tryd.func45.trans (congrArg some (by kernel_rfl))
  f246 := Tryd.func53.trans (congrArg some (by kernel_rfl))
  f283 := Tryd.func57.trans (congrArg some (by kernel_rfl))
  f284 := Tryd.func58.trans (congrArg some (by kernel_rfl))
  f285 := Tryd.func59.trans (congrArg some (by kernel_rfl))
  f286 := Tryd.func60.trans (congrArg some (by kernel_rfl))
  f317 := Tryd.func63.trans (congrArg some (by kernel_rfl))
  f318 := Tryd.func65.trans (congrArg some (by kernel_rfl))
  f319 := Tryd.func66.trans (congrArg some (by kernel_rfl))
  f320 := Tryd.func67.trans (congrArg some (by kernel_rfl))
  f337 := Tryd.func68.trans (congrArg some (by kernel_rfl))
  f338 := Tryd.func69.trans (congrArg some (by kernel_rfl))
  t0 := Tryd.underlying0
  a0 := Tryd.isAgg0
  z0 := Tryd.sizeOf0
  v0 := Tryd.zeroValue0
  t2 := Tryd.underlying2
  a2 := Tryd.isAgg2
  z2 := Tryd.sizeOf2
  v2 := Tryd.zeroValue2
  t3 := Tryd.underlying3
  a3 := Tryd.isAgg3
  z3 := Tryd.sizeOf3
  v3 := Tryd.zeroValue3
  t4 := Tryd.underlying4
  a4 := Tryd.isAgg4
  z4 := Tryd.sizeOf4
  v4 := Tryd.zeroValue4
  t5 := Tryd.underlying5
  a5 := Tryd.isAgg5
  z5 := Tryd.sizeOf5
  v5 := Tryd.zeroValue5
  t9 := Tryd.underlying9
  a9 := Tryd.isAgg9
  z9 := Tryd.sizeOf9
  v9 := Tryd.zeroValue9
  t20 := Tryd.underlying20
  a20 := Tryd.isAgg20
  z20 := Tryd.sizeOf20
  v20 := Tryd.zeroValue20
  t37 := Tryd.underlying71
  a37 := Tryd.isAgg71
  z37 := Tryd.sizeOf71
  v37 := Tryd.zeroValue71
  t46 := Tryd.underlying126
  a46 := Tryd.isAgg126
  z46 := Tryd.sizeOf126
  v46 := Tryd.zeroValue126
  t51 := Tryd.underlying123
  a51 := Tryd.isAgg123
  z51 := Tryd.sizeOf123
  v51 := Tryd.zeroValue123
  t53 := Tryd.underlying112
  a53 := Tryd.isAgg112
  z53 := Tryd.sizeOf112
  v53 := Tryd.zeroValue112
  t171 := Tryd.underlying111
  a171 := Tryd.isAgg111
  z171 := Tryd.sizeOf111
  v171 := Tryd.zeroValue111
  t173 := Tryd.underlying115
  a173 := Tryd.isAgg115
  z173 := Tryd.sizeOf115
  v173 := Tryd.zeroValue115
  t212 := Tryd.underlying122
  a212 := Tryd.isAgg122
  z212 := Tryd.sizeOf122
  v212 := Tryd.zeroValue122
  t213 := Tryd.underlying124
  a213 := Tryd.isAgg124
  z213 := Tryd.sizeOf124
  t232 := Tryd.underlying129
  a232 := Tryd.isAgg129
  z232 := Tryd.sizeOf129
  v232 := Tryd.zeroValue129
  t233 := Tryd.underlying130
  a233 := Tryd.isAgg130
  z233 := Tryd.sizeOf130
  v233 := Tryd.zeroValue130
  g17 := by kernel_rfl
  g18 := by kernel_rfl
  g19 := by kernel_rfl
  i0 := by kernel_rfl
  i2 := by kernel_rfl
  i3 := by kernel_rfl
  i4 := by kernel_rfl
  i5 := by kernel_rfl
  i9 := by kernel_rfl
  i20 := by kernel_rfl
  i37 := by kernel_rfl
  i46 := by kernel_rfl
  i51 := by kernel_rfl
  i53 := by kernel_rfl
  i171 := by kernel_rfl
  i173 := by kernel_rfl
  i212 := by kernel_rfl
  i232 := by kernel_rfl
  i233 := by kernel_rfl
  m17 := by kernel_rfl
  m18 := by kernel_rfl
  m19 := by kernel_rfl }
open Go.RowKit Go.Sort Go.Lib in
theorem Tryd.strconv_Itoa (n : Int) (h0 : -9223372036854775808 ≤ n) (h1 : n ≤ 9223372036854775807) (w : World) (htab : Lib.TabIs Tryd.prog w "internal/strconv.uint64pow10" .u64 Lib.pow10Tab) :
    Calls Tryd.prog 36 #[.int .i64 n] w fun e w' => e = .returned (.string ⟨(Lib.itoa n).toArray⟩) ∧ ∃ k os, w' = grow (w.drewN k) os := Any.strconv_Itoa Tryd.laysM171 n h0 h1 w htab
end Go.Proofs

