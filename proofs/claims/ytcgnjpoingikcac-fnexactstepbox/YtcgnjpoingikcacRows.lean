/-
  No cell of these rows narrows 'for every input' (looked for: loops, veiled, ifaces, maps, wideKeys, modest, calm, conditions, laid).
  DERIVED. THE GIVEN ROWS OF THIS SEAT. 4 by the template 'for every input the law returns true; each argument reads behind the call as it read before'; 0 by the template 'total and deterministic' (their statements: YtcgnjpoingikcacTotals.lean).
  GIVEN WITH THE SEED: the statements are not yours to turn. If you find one false, say at which input.
  Laid BY PROGRAM, IN A SANDBOX (cutbox-rows.mjs): the forced cells as the released guide's own fill.sh prints them over the translation 7662195bc7a3218f… (all of the seat's roots in one cut). By AI agents, Wed Nov 11 2026. No macro, syntax, notation, axiom, sorry.
-/
import Derived.Test.YtcgnjpoingikcacChecked
import GoSem.Claim
import GoSem.ClaimJoined
import GoSem.ClaimMapViews
import Derived.JoinedTies
import Derived.KernelRfl
namespace Go.Proofs.Ytcgnjpoingikcac
/- THE CELL 'sum', in the pinned program and in every row, IS THE sha256 OF THE DUMP (.gsa) THAT YtcgnjpoingikcacProg.lean LOADS. Nothing in Lean hashes anything: it is a label: what it is worth is what the hold of that sum in a sandbox is worth. -/
noncomputable def Try.pinned : Pinned := { name := "ytcgnjpoingikcac", sum := "7662195bc7a3218fdf85ba66ea83bf6e62c7dab0b4efe69aab9f3d10b5418e4b", checked := Try.checked }
namespace Rows
def none {H : Type} : Left H := { results := [], args := [] }

/-- 'laws.FnExactHardEnds': WHATEVER THE INPUT: true; the input reads as it did. -/
def fnExactHardEndsSpec : ChangeSpec := { name := "fnExactHardEnds", fn := fun _ => fun
  | [d] => { results := [.lit (.bool true)], args := [d] }
  | _ => none }
def fnExactHardEndsRow : OpenClaim := { program := "ytcgnjpoingikcac", sum := "7662195bc7a3218fdf85ba66ea83bf6e62c7dab0b4efe69aab9f3d10b5418e4b", func := "loop.example/g03000/laws.FnExactHardEnds", spec := "fnExactHardEnds", unfollowed := true, recurses := true, apart := false }
def FnExactHardEndsSaid : Prop := fnExactHardEndsRow.holds Try.pinned (OpenSpec.ofChange fnExactHardEndsSpec)

/-- ITS FALSE NEIGHBOUR: 'it returns false'. Refute it at one input. -/
def fnExactHardEndsWrong : ChangeSpec := { name := "fnExactHardEnds", fn := fun _ => fun
  | [d] => { results := [.lit (.bool false)], args := [d] }
  | _ => none }
def FnExactHardEndsWrongFalsely : Prop := fnExactHardEndsRow.holds Try.pinned (OpenSpec.ofChange fnExactHardEndsWrong)

/-- 'laws.FnExactStepTick': WHATEVER THE INPUT: true; the input reads as it did. -/
def fnExactStepTickSpec : ChangeSpec := { name := "fnExactStepTick", fn := fun _ => fun
  | [d1, d2] => { results := [.lit (.bool true)], args := [d1, d2] }
  | _ => none }
def fnExactStepTickRow : OpenClaim := { program := "ytcgnjpoingikcac", sum := "7662195bc7a3218fdf85ba66ea83bf6e62c7dab0b4efe69aab9f3d10b5418e4b", func := "loop.example/g03000/laws.FnExactStepTick", spec := "fnExactStepTick", apart := false }
def FnExactStepTickSaid : Prop := fnExactStepTickRow.holds Try.pinned (OpenSpec.ofChange fnExactStepTickSpec)

/-- ITS FALSE NEIGHBOUR: 'it returns false'. Refute it at one input. -/
def fnExactStepTickWrong : ChangeSpec := { name := "fnExactStepTick", fn := fun _ => fun
  | [d1, d2] => { results := [.lit (.bool false)], args := [d1, d2] }
  | _ => none }
def FnExactStepTickWrongFalsely : Prop := fnExactStepTickRow.holds Try.pinned (OpenSpec.ofChange fnExactStepTickWrong)

/-- 'laws.FnExactStepClear': WHATEVER THE INPUT: true; the input reads as it did. -/
def fnExactStepClearSpec : ChangeSpec := { name := "fnExactStepClear", fn := fun _ => fun
  | [d1, d2] => { results := [.lit (.bool true)], args := [d1, d2] }
  | _ => none }
def fnExactStepClearRow : OpenClaim := { program := "ytcgnjpoingikcac", sum := "7662195bc7a3218fdf85ba66ea83bf6e62c7dab0b4efe69aab9f3d10b5418e4b", func := "loop.example/g03000/laws.FnExactStepClear", spec := "fnExactStepClear", apart := false }
def FnExactStepClearSaid : Prop := fnExactStepClearRow.holds Try.pinned (OpenSpec.ofChange fnExactStepClearSpec)

/-- ITS FALSE NEIGHBOUR: 'it returns false'. Refute it at one input. -/
def fnExactStepClearWrong : ChangeSpec := { name := "fnExactStepClear", fn := fun _ => fun
  | [d1, d2] => { results := [.lit (.bool false)], args := [d1, d2] }
  | _ => none }
def FnExactStepClearWrongFalsely : Prop := fnExactStepClearRow.holds Try.pinned (OpenSpec.ofChange fnExactStepClearWrong)

/-- 'laws.FnExactStepBox': WHATEVER THE INPUT: true; the input reads as it did. -/
def fnExactStepBoxSpec : ChangeSpec := { name := "fnExactStepBox", fn := fun _ => fun
  | [d1, d2, d3] => { results := [.lit (.bool true)], args := [d1, d2, d3] }
  | _ => none }
def fnExactStepBoxRow : OpenClaim := { program := "ytcgnjpoingikcac", sum := "7662195bc7a3218fdf85ba66ea83bf6e62c7dab0b4efe69aab9f3d10b5418e4b", func := "loop.example/g03000/laws.FnExactStepBox", spec := "fnExactStepBox", unfollowed := true, recurses := true, apart := false }
def FnExactStepBoxSaid : Prop := fnExactStepBoxRow.holds Try.pinned (OpenSpec.ofChange fnExactStepBoxSpec)

/-- ITS FALSE NEIGHBOUR: 'it returns false'. Refute it at one input. -/
def fnExactStepBoxWrong : ChangeSpec := { name := "fnExactStepBox", fn := fun _ => fun
  | [d1, d2, d3] => { results := [.lit (.bool false)], args := [d1, d2, d3] }
  | _ => none }
def FnExactStepBoxWrongFalsely : Prop := fnExactStepBoxRow.holds Try.pinned (OpenSpec.ofChange fnExactStepBoxWrong)

/- THE SECOND FORM. 'bulk': how many values and letters a reading holds, each counted each time it is reached (what is shared counts as often as it is met; a slice's spare places count too). A statement '..UptoSaid' is the law's where the arguments, and the package variables that the reading takes, are together of bulk at most 1048576: NARROWER than '..Said'. Prove '..Said' where nothing that the law and all that it calls make is longer than what came in: it says more and counts as full. Else prove '..UptoSaid'. A law counts once. -/
mutual
def uptoBulk {H : Type} : DataW H → Nat
  | .lit (.string bytes) => bytes.length + 1
  | .lit _ => 1
  | .nil => 1
  | .ptr d => uptoBulk d + 1
  | .slice elems spare => uptoBulkAll elems + uptoBulkAll spare + 1
  | .agg parts => uptoBulkAll parts + 1
  | .iface _ d => uptoBulk d + 1
  | .map entries => uptoBulkEntries entries + 1
  | .held _ => 1
def uptoBulkAll {H : Type} : List (DataW H) → Nat
  | [] => 0
  | d :: r => uptoBulk d + uptoBulkAll r
def uptoBulkEntries {H : Type} : List (Lit × DataW H) → Nat
  | [] => 0
  | x :: r => uptoBulkEntry x + uptoBulkEntries r
def uptoBulkEntry {H : Type} : Lit × DataW H → Nat
  | (.string bytes, d) => bytes.length + uptoBulk d + 1
  | (_, d) => uptoBulk d + 1
 end
def uptoSmall : (H : Type) → List (DataW H) → Bool := fun _ ds => decide (uptoBulkAll ds ≤ 1048576)
def OpenSpec.upto (s : _root_.Go.ChangeSpec) : _root_.Go.OpenSpec := { _root_.Go.OpenSpec.ofChange s with cond := some uptoSmall }

/-- 'laws.FnExactHardEnds', WHERE WHAT IT READS IS OF BULK AT MOST 1048576: true; the input reads as it did. -/
def fnExactHardEndsUptoRow : OpenClaim := { program := "ytcgnjpoingikcac", sum := "7662195bc7a3218fdf85ba66ea83bf6e62c7dab0b4efe69aab9f3d10b5418e4b", func := "loop.example/g03000/laws.FnExactHardEnds", spec := "fnExactHardEnds", unfollowed := true, recurses := true, apart := false, narrowed := true }
def FnExactHardEndsUptoSaid : Prop := fnExactHardEndsUptoRow.holds Try.pinned (OpenSpec.upto fnExactHardEndsSpec)

/-- 'laws.FnExactStepTick', WHERE WHAT IT READS IS OF BULK AT MOST 1048576: true; the input reads as it did. -/
def fnExactStepTickUptoRow : OpenClaim := { program := "ytcgnjpoingikcac", sum := "7662195bc7a3218fdf85ba66ea83bf6e62c7dab0b4efe69aab9f3d10b5418e4b", func := "loop.example/g03000/laws.FnExactStepTick", spec := "fnExactStepTick", apart := false, narrowed := true }
def FnExactStepTickUptoSaid : Prop := fnExactStepTickUptoRow.holds Try.pinned (OpenSpec.upto fnExactStepTickSpec)

/-- 'laws.FnExactStepClear', WHERE WHAT IT READS IS OF BULK AT MOST 1048576: true; the input reads as it did. -/
def fnExactStepClearUptoRow : OpenClaim := { program := "ytcgnjpoingikcac", sum := "7662195bc7a3218fdf85ba66ea83bf6e62c7dab0b4efe69aab9f3d10b5418e4b", func := "loop.example/g03000/laws.FnExactStepClear", spec := "fnExactStepClear", apart := false, narrowed := true }
def FnExactStepClearUptoSaid : Prop := fnExactStepClearUptoRow.holds Try.pinned (OpenSpec.upto fnExactStepClearSpec)

/-- 'laws.FnExactStepBox', WHERE WHAT IT READS IS OF BULK AT MOST 1048576: true; the input reads as it did. -/
def fnExactStepBoxUptoRow : OpenClaim := { program := "ytcgnjpoingikcac", sum := "7662195bc7a3218fdf85ba66ea83bf6e62c7dab0b4efe69aab9f3d10b5418e4b", func := "loop.example/g03000/laws.FnExactStepBox", spec := "fnExactStepBox", unfollowed := true, recurses := true, apart := false, narrowed := true }
def FnExactStepBoxUptoSaid : Prop := fnExactStepBoxUptoRow.holds Try.pinned (OpenSpec.upto fnExactStepBoxSpec)

end Rows
end Go.Proofs.Ytcgnjpoingikcac
