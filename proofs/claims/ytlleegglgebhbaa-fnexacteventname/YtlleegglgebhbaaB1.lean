import Derived.Test.YtlleegglgebhbaaT1
namespace Go.Eng.T

abbrev I (a : Int) : V := .sc (.int .i64 a)
abbrev B (a : Bool) : V := .sc (.bool a)
abbrev S (a : ByteArray) : V := .sc (.string a)
abbrev Rel := List V → List O → V → List O → Prop

abbrev InS (R : Rel) : Prop := ∀ a b c : Int, R [I a, I b, I c] [] (B (decide (b ≤ a ∧ a ≤ c))) []
theorem l1In_b (D : Dn) : InS (Body D sspec_l1In) := by
  intro a b c
  by_cases h1 : b ≤ a <;> by_cases h2 : a ≤ c <;> simp [h1, h2]
theorem InRange_b (D : Dn) : InS (Body D simpl_InRange) := by
  intro a b c
  by_cases h1 : b ≤ a <;> by_cases h2 : a ≤ c <;> simp [h1, h2]

def evNames : List (List UInt8) := [[], [100, 105, 97, 108], [115, 116, 97, 114, 116], [115, 116, 97, 103, 101], [114, 101, 116, 105, 114, 101], [114, 101, 118, 105, 118, 101], [98, 111, 120], [99, 108, 101, 97, 114], [116, 105, 99, 107]]
def evName (k : Int) : ByteArray := if 1 ≤ k ∧ k ≤ 8 then ⟨(evNames.getD k.toNat []).toArray⟩ else ⟨#[]⟩
theorem evCases {k : Int} (h : 1 ≤ k ∧ k ≤ 8) : k = 1 ∨ k = 2 ∨ k = 3 ∨ k = 4 ∨ k = 5 ∨ k = 6 ∨ k = 7 ∨ k = 8 := by omega
abbrev EventNameS (R : Rel) : Prop := ∀ k : Int, R [I k] [] (S (evName k)) []

theorem sEventName_b (D : Dn) (hIn : InS (D 71)) : EventNameS (Body D sspec_EventName) := by
  intro k
  simp
  refine callQ_of (hIn _ _ _) ?_
  by_cases h : 1 ≤ k ∧ k ≤ 8
  · rcases evCases h with rfl | rfl | rfl | rfl | rfl | rfl | rfl | rfl <;> simp [evName] <;> rfl
  · simp [h, evName]
theorem iEventName_b (D : Dn) (hIn : InS (D 114)) : EventNameS (Body D simpl_EventName) := by
  intro k
  simp
  refine callQ_of (hIn _ _ _) ?_
  by_cases h : 1 ≤ k ∧ k ≤ 8
  · rcases evCases h with rfl | rfl | rfl | rfl | rfl | rfl | rfl | rfl <;> simp [evName] <;> rfl
  · simp [h, evName]
theorem FnExactEventName_b (D : Dn) (hs : EventNameS (D 73)) (hi : EventNameS (D 377)) (k : Int) : Body D slaws_FnExactEventName [I k] [] (B true) [] := by
  simp
  refine callQ_of (hs _) ?_
  simp
  refine callQ_of (hi _) ?_
  simp
end Go.Eng.T
