/-
  No cell of these rows narrows 'for every input' (looked for: loops, veiled, ifaces, maps, wideKeys, modest, calm, conditions, laid).
  DERIVED. THE GIVEN ROWS OF THIS SEAT. 6 by the template 'for every input the law returns true; each argument reads behind the call as it read before'; 0 by the template 'total and deterministic' (their statements: YtcgnjpoingikcabTotals.lean).
  GIVEN WITH THE SEED: the statements are not yours to turn. If you find one false, say at which input.
  Laid BY PROGRAM, IN A SANDBOX (cutbox-rows.mjs): the forced cells as the released guide's own fill.sh prints them over the translation bc4e3e10bf5021c2… (all of the seat's roots in one cut). By AI agents, Wed Nov 11 2026. No macro, syntax, notation, axiom, sorry.
-/
import Derived.Test.YtcgnjpoingikcabChecked
import GoSem.Claim
import GoSem.ClaimJoined
import GoSem.ClaimMapViews
import Derived.JoinedTies
import Derived.KernelRfl
namespace Go.Proofs.Ytcgnjpoingikcab
/- THE CELL 'sum', in the pinned program and in every row, IS THE sha256 OF THE DUMP (.gsa) THAT YtcgnjpoingikcabProg.lean LOADS. Nothing in Lean hashes anything: it is a label: what it is worth is what the hold of that sum in a sandbox is worth. -/
noncomputable def Try.pinned : Pinned := { name := "ytcgnjpoingikcab", sum := "bc4e3e10bf5021c24a9ac7aa6b0c7e42f687c8730005845e3d75d0b21fa51e8a", checked := Try.checked }
namespace Rows
def none {H : Type} : Left H := { results := [], args := [] }

/-- 'laws.FnExactIsSober': WHATEVER THE INPUT: true; the input reads as it did. -/
def fnExactIsSoberSpec : ChangeSpec := { name := "fnExactIsSober", fn := fun _ => fun
  | [d] => { results := [.lit (.bool true)], args := [d] }
  | _ => none }
def fnExactIsSoberRow : OpenClaim := { program := "ytcgnjpoingikcab", sum := "bc4e3e10bf5021c24a9ac7aa6b0c7e42f687c8730005845e3d75d0b21fa51e8a", func := "loop.example/g03000/laws.FnExactIsSober", spec := "fnExactIsSober", unfollowed := true, recurses := true, apart := false }
def FnExactIsSoberSaid : Prop := fnExactIsSoberRow.holds Try.pinned (OpenSpec.ofChange fnExactIsSoberSpec)

/-- ITS FALSE NEIGHBOUR: 'it returns false'. Refute it at one input. -/
def fnExactIsSoberWrong : ChangeSpec := { name := "fnExactIsSober", fn := fun _ => fun
  | [d] => { results := [.lit (.bool false)], args := [d] }
  | _ => none }
def FnExactIsSoberWrongFalsely : Prop := fnExactIsSoberRow.holds Try.pinned (OpenSpec.ofChange fnExactIsSoberWrong)

/-- 'laws.FnExactIsCounted': WHATEVER THE INPUT: true; the input reads as it did. -/
def fnExactIsCountedSpec : ChangeSpec := { name := "fnExactIsCounted", fn := fun _ => fun
  | [d] => { results := [.lit (.bool true)], args := [d] }
  | _ => none }
def fnExactIsCountedRow : OpenClaim := { program := "ytcgnjpoingikcab", sum := "bc4e3e10bf5021c24a9ac7aa6b0c7e42f687c8730005845e3d75d0b21fa51e8a", func := "loop.example/g03000/laws.FnExactIsCounted", spec := "fnExactIsCounted", apart := false }
def FnExactIsCountedSaid : Prop := fnExactIsCountedRow.holds Try.pinned (OpenSpec.ofChange fnExactIsCountedSpec)

/-- ITS FALSE NEIGHBOUR: 'it returns false'. Refute it at one input. -/
def fnExactIsCountedWrong : ChangeSpec := { name := "fnExactIsCounted", fn := fun _ => fun
  | [d] => { results := [.lit (.bool false)], args := [d] }
  | _ => none }
def FnExactIsCountedWrongFalsely : Prop := fnExactIsCountedRow.holds Try.pinned (OpenSpec.ofChange fnExactIsCountedWrong)

/-- 'laws.FnExactIsOnNew': WHATEVER THE INPUT: true; the input reads as it did. -/
def fnExactIsOnNewSpec : ChangeSpec := { name := "fnExactIsOnNew", fn := fun _ => fun
  | [d1, d2] => { results := [.lit (.bool true)], args := [d1, d2] }
  | _ => none }
def fnExactIsOnNewRow : OpenClaim := { program := "ytcgnjpoingikcab", sum := "bc4e3e10bf5021c24a9ac7aa6b0c7e42f687c8730005845e3d75d0b21fa51e8a", func := "loop.example/g03000/laws.FnExactIsOnNew", spec := "fnExactIsOnNew", apart := false }
def FnExactIsOnNewSaid : Prop := fnExactIsOnNewRow.holds Try.pinned (OpenSpec.ofChange fnExactIsOnNewSpec)

/-- ITS FALSE NEIGHBOUR: 'it returns false'. Refute it at one input. -/
def fnExactIsOnNewWrong : ChangeSpec := { name := "fnExactIsOnNew", fn := fun _ => fun
  | [d1, d2] => { results := [.lit (.bool false)], args := [d1, d2] }
  | _ => none }
def FnExactIsOnNewWrongFalsely : Prop := fnExactIsOnNewRow.holds Try.pinned (OpenSpec.ofChange fnExactIsOnNewWrong)

/-- 'laws.FnExactOnNewCount': WHATEVER THE INPUT: true; the input reads as it did. -/
def fnExactOnNewCountSpec : ChangeSpec := { name := "fnExactOnNewCount", fn := fun _ => fun
  | [d] => { results := [.lit (.bool true)], args := [d] }
  | _ => none }
def fnExactOnNewCountRow : OpenClaim := { program := "ytcgnjpoingikcab", sum := "bc4e3e10bf5021c24a9ac7aa6b0c7e42f687c8730005845e3d75d0b21fa51e8a", func := "loop.example/g03000/laws.FnExactOnNewCount", spec := "fnExactOnNewCount", apart := false }
def FnExactOnNewCountSaid : Prop := fnExactOnNewCountRow.holds Try.pinned (OpenSpec.ofChange fnExactOnNewCountSpec)

/-- ITS FALSE NEIGHBOUR: 'it returns false'. Refute it at one input. -/
def fnExactOnNewCountWrong : ChangeSpec := { name := "fnExactOnNewCount", fn := fun _ => fun
  | [d] => { results := [.lit (.bool false)], args := [d] }
  | _ => none }
def FnExactOnNewCountWrongFalsely : Prop := fnExactOnNewCountRow.holds Try.pinned (OpenSpec.ofChange fnExactOnNewCountWrong)

/-- 'laws.FnExactSignalNow': WHATEVER THE INPUT: true; the input reads as it did. -/
def fnExactSignalNowSpec : ChangeSpec := { name := "fnExactSignalNow", fn := fun _ => fun
  | [d] => { results := [.lit (.bool true)], args := [d] }
  | _ => none }
def fnExactSignalNowRow : OpenClaim := { program := "ytcgnjpoingikcab", sum := "bc4e3e10bf5021c24a9ac7aa6b0c7e42f687c8730005845e3d75d0b21fa51e8a", func := "loop.example/g03000/laws.FnExactSignalNow", spec := "fnExactSignalNow", unfollowed := true, recurses := true, apart := false }
def FnExactSignalNowSaid : Prop := fnExactSignalNowRow.holds Try.pinned (OpenSpec.ofChange fnExactSignalNowSpec)

/-- ITS FALSE NEIGHBOUR: 'it returns false'. Refute it at one input. -/
def fnExactSignalNowWrong : ChangeSpec := { name := "fnExactSignalNow", fn := fun _ => fun
  | [d] => { results := [.lit (.bool false)], args := [d] }
  | _ => none }
def FnExactSignalNowWrongFalsely : Prop := fnExactSignalNowRow.holds Try.pinned (OpenSpec.ofChange fnExactSignalNowWrong)

/-- 'laws.FnExactHasVersion': WHATEVER THE INPUT: true; the input reads as it did. -/
def fnExactHasVersionSpec : ChangeSpec := { name := "fnExactHasVersion", fn := fun _ => fun
  | [d1, d2] => { results := [.lit (.bool true)], args := [d1, d2] }
  | _ => none }
def fnExactHasVersionRow : OpenClaim := { program := "ytcgnjpoingikcab", sum := "bc4e3e10bf5021c24a9ac7aa6b0c7e42f687c8730005845e3d75d0b21fa51e8a", func := "loop.example/g03000/laws.FnExactHasVersion", spec := "fnExactHasVersion", apart := false }
def FnExactHasVersionSaid : Prop := fnExactHasVersionRow.holds Try.pinned (OpenSpec.ofChange fnExactHasVersionSpec)

/-- ITS FALSE NEIGHBOUR: 'it returns false'. Refute it at one input. -/
def fnExactHasVersionWrong : ChangeSpec := { name := "fnExactHasVersion", fn := fun _ => fun
  | [d1, d2] => { results := [.lit (.bool false)], args := [d1, d2] }
  | _ => none }
def FnExactHasVersionWrongFalsely : Prop := fnExactHasVersionRow.holds Try.pinned (OpenSpec.ofChange fnExactHasVersionWrong)

/- THE SECOND FORM. 'bulk': how many values and letters a reading holds, each counted each time it is reached (what is shared counts as often as it is met; a slice's spare places count too). A statement '..UptoSaid' is the law's where the arguments, and the package variables that the reading takes, are together of bulk at most 1048576: NARROWER than '..Said'. Prove '..Said' where nothing that the law and all that it calls make is longer than what came in: it says more and counts as full. Else prove '..UptoSaid'. A law counts once. -/
mutual
def uptoBulk {H : Type} : DataW H → Nat
  | .lit (.string bytes) => bytes.length + 1
  | .lit _ => 1
  | .nil => 1
  | .ptr d => uptoBulk d + 1
  | .slice elems spare => uptoBulkAll elems + uptoBulkAll spare + 1
  | .agg parts => uptoBulkAll parts + 1
  | .iface _ d => uptoBulk d + 1
  | .map entries => uptoBulkEntries entries + 1
  | .held _ => 1
def uptoBulkAll {H : Type} : List (DataW H) → Nat
  | [] => 0
  | d :: r => uptoBulk d + uptoBulkAll r
def uptoBulkEntries {H : Type} : List (Lit × DataW H) → Nat
  | [] => 0
  | x :: r => uptoBulkEntry x + uptoBulkEntries r
def uptoBulkEntry {H : Type} : Lit × DataW H → Nat
  | (.string bytes, d) => bytes.length + uptoBulk d + 1
  | (_, d) => uptoBulk d + 1
 end
def uptoSmall : (H : Type) → List (DataW H) → Bool := fun _ ds => decide (uptoBulkAll ds ≤ 1048576)
def OpenSpec.upto (s : _root_.Go.ChangeSpec) : _root_.Go.OpenSpec := { _root_.Go.OpenSpec.ofChange s with cond := some uptoSmall }

/-- 'laws.FnExactIsSober', WHERE WHAT IT READS IS OF BULK AT MOST 1048576: true; the input reads as it did. -/
def fnExactIsSoberUptoRow : OpenClaim := { program := "ytcgnjpoingikcab", sum := "bc4e3e10bf5021c24a9ac7aa6b0c7e42f687c8730005845e3d75d0b21fa51e8a", func := "loop.example/g03000/laws.FnExactIsSober", spec := "fnExactIsSober", unfollowed := true, recurses := true, apart := false, narrowed := true }
def FnExactIsSoberUptoSaid : Prop := fnExactIsSoberUptoRow.holds Try.pinned (OpenSpec.upto fnExactIsSoberSpec)

/-- 'laws.FnExactIsCounted', WHERE WHAT IT READS IS OF BULK AT MOST 1048576: true; the input reads as it did. -/
def fnExactIsCountedUptoRow : OpenClaim := { program := "ytcgnjpoingikcab", sum := "bc4e3e10bf5021c24a9ac7aa6b0c7e42f687c8730005845e3d75d0b21fa51e8a", func := "loop.example/g03000/laws.FnExactIsCounted", spec := "fnExactIsCounted", apart := false, narrowed := true }
def FnExactIsCountedUptoSaid : Prop := fnExactIsCountedUptoRow.holds Try.pinned (OpenSpec.upto fnExactIsCountedSpec)

/-- 'laws.FnExactIsOnNew', WHERE WHAT IT READS IS OF BULK AT MOST 1048576: true; the input reads as it did. -/
def fnExactIsOnNewUptoRow : OpenClaim := { program := "ytcgnjpoingikcab", sum := "bc4e3e10bf5021c24a9ac7aa6b0c7e42f687c8730005845e3d75d0b21fa51e8a", func := "loop.example/g03000/laws.FnExactIsOnNew", spec := "fnExactIsOnNew", apart := false, narrowed := true }
def FnExactIsOnNewUptoSaid : Prop := fnExactIsOnNewUptoRow.holds Try.pinned (OpenSpec.upto fnExactIsOnNewSpec)

/-- 'laws.FnExactOnNewCount', WHERE WHAT IT READS IS OF BULK AT MOST 1048576: true; the input reads as it did. -/
def fnExactOnNewCountUptoRow : OpenClaim := { program := "ytcgnjpoingikcab", sum := "bc4e3e10bf5021c24a9ac7aa6b0c7e42f687c8730005845e3d75d0b21fa51e8a", func := "loop.example/g03000/laws.FnExactOnNewCount", spec := "fnExactOnNewCount", apart := false, narrowed := true }
def FnExactOnNewCountUptoSaid : Prop := fnExactOnNewCountUptoRow.holds Try.pinned (OpenSpec.upto fnExactOnNewCountSpec)

/-- 'laws.FnExactSignalNow', WHERE WHAT IT READS IS OF BULK AT MOST 1048576: true; the input reads as it did. -/
def fnExactSignalNowUptoRow : OpenClaim := { program := "ytcgnjpoingikcab", sum := "bc4e3e10bf5021c24a9ac7aa6b0c7e42f687c8730005845e3d75d0b21fa51e8a", func := "loop.example/g03000/laws.FnExactSignalNow", spec := "fnExactSignalNow", unfollowed := true, recurses := true, apart := false, narrowed := true }
def FnExactSignalNowUptoSaid : Prop := fnExactSignalNowUptoRow.holds Try.pinned (OpenSpec.upto fnExactSignalNowSpec)

/-- 'laws.FnExactHasVersion', WHERE WHAT IT READS IS OF BULK AT MOST 1048576: true; the input reads as it did. -/
def fnExactHasVersionUptoRow : OpenClaim := { program := "ytcgnjpoingikcab", sum := "bc4e3e10bf5021c24a9ac7aa6b0c7e42f687c8730005845e3d75d0b21fa51e8a", func := "loop.example/g03000/laws.FnExactHasVersion", spec := "fnExactHasVersion", apart := false, narrowed := true }
def FnExactHasVersionUptoSaid : Prop := fnExactHasVersionUptoRow.holds Try.pinned (OpenSpec.upto fnExactHasVersionSpec)

end Rows
end Go.Proofs.Ytcgnjpoingikcab
