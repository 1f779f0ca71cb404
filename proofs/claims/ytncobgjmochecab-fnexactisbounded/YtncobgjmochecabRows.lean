/-
  No cell of these rows narrows 'for every input' (looked for: loops, veiled, ifaces, maps, wideKeys, modest, calm, conditions, laid).
  DERIVED. THE GIVEN ROWS OF THIS SEAT. 4 by the template 'for every input the law returns true; each argument reads behind the call as it read before'; 0 by the template 'total and deterministic' (their statements: YtncobgjmochecabTotals.lean).
  GIVEN WITH THE SEED: the statements are not yours to turn. If you find one false, say at which input.
  Laid BY PROGRAM, IN A SANDBOX (cutbox-rows.mjs): the forced cells as the released guide's own fill.sh prints them over the translation 82524ae7f21b5fde… (all of the seat's roots in one cut). By AI agents, Wed Nov 11 2026. No macro, syntax, notation, axiom, sorry.
-/
import Derived.Test.YtncobgjmochecabChecked
import GoSem.Claim
import GoSem.ClaimJoined
import GoSem.ClaimMapViews
import Derived.JoinedTies
import Derived.KernelRfl
namespace Go.Proofs.Ytncobgjmochecab
/- THE CELL 'sum', in the pinned program and in every row, IS THE sha256 OF THE DUMP (.gsa) THAT YtncobgjmochecabProg.lean LOADS. Nothing in Lean hashes anything: it is a label: what it is worth is what the hold of that sum in a sandbox is worth. -/
noncomputable def Try.pinned : Pinned := { name := "ytncobgjmochecab", sum := "82524ae7f21b5fde15ddde3d2b36762000fcd04ff78c69f69a55b86c0e822253", checked := Try.checked }
namespace Rows
def none {H : Type} : Left H := { results := [], args := [] }

/-- 'laws.FnExactEnterStage': WHATEVER THE INPUT: true; the input reads as it did. -/
def fnExactEnterStageSpec : ChangeSpec := { name := "fnExactEnterStage", fn := fun _ => fun
  | [d] => { results := [.lit (.bool true)], args := [d] }
  | _ => none }
def fnExactEnterStageRow : OpenClaim := { program := "ytncobgjmochecab", sum := "82524ae7f21b5fde15ddde3d2b36762000fcd04ff78c69f69a55b86c0e822253", func := "loop.example/g03000/laws.FnExactEnterStage", spec := "fnExactEnterStage", inPlace := ["slices.overlaps[int]"], apart := false }
def FnExactEnterStageSaid : Prop := fnExactEnterStageRow.holds Try.pinned (OpenSpec.ofChange fnExactEnterStageSpec)

/-- ITS FALSE NEIGHBOUR: 'it returns false'. Refute it at one input. -/
def fnExactEnterStageWrong : ChangeSpec := { name := "fnExactEnterStage", fn := fun _ => fun
  | [d] => { results := [.lit (.bool false)], args := [d] }
  | _ => none }
def FnExactEnterStageWrongFalsely : Prop := fnExactEnterStageRow.holds Try.pinned (OpenSpec.ofChange fnExactEnterStageWrong)

/-- 'laws.FnExactHurtEnds': WHATEVER THE INPUT: true; the input reads as it did. -/
def fnExactHurtEndsSpec : ChangeSpec := { name := "fnExactHurtEnds", fn := fun _ => fun
  | [d] => { results := [.lit (.bool true)], args := [d] }
  | _ => none }
def fnExactHurtEndsRow : OpenClaim := { program := "ytncobgjmochecab", sum := "82524ae7f21b5fde15ddde3d2b36762000fcd04ff78c69f69a55b86c0e822253", func := "loop.example/g03000/laws.FnExactHurtEnds", spec := "fnExactHurtEnds", recurses := true, apart := false }
def FnExactHurtEndsSaid : Prop := fnExactHurtEndsRow.holds Try.pinned (OpenSpec.ofChange fnExactHurtEndsSpec)

/-- ITS FALSE NEIGHBOUR: 'it returns false'. Refute it at one input. -/
def fnExactHurtEndsWrong : ChangeSpec := { name := "fnExactHurtEnds", fn := fun _ => fun
  | [d] => { results := [.lit (.bool false)], args := [d] }
  | _ => none }
def FnExactHurtEndsWrongFalsely : Prop := fnExactHurtEndsRow.holds Try.pinned (OpenSpec.ofChange fnExactHurtEndsWrong)

/-- 'laws.FnExactStepStart': WHATEVER THE INPUT: true; the input reads as it did. -/
def fnExactStepStartSpec : ChangeSpec := { name := "fnExactStepStart", fn := fun _ => fun
  | [d] => { results := [.lit (.bool true)], args := [d] }
  | _ => none }
def fnExactStepStartRow : OpenClaim := { program := "ytncobgjmochecab", sum := "82524ae7f21b5fde15ddde3d2b36762000fcd04ff78c69f69a55b86c0e822253", func := "loop.example/g03000/laws.FnExactStepStart", spec := "fnExactStepStart", inPlace := ["slices.overlaps[int]"], apart := false }
def FnExactStepStartSaid : Prop := fnExactStepStartRow.holds Try.pinned (OpenSpec.ofChange fnExactStepStartSpec)

/-- ITS FALSE NEIGHBOUR: 'it returns false'. Refute it at one input. -/
def fnExactStepStartWrong : ChangeSpec := { name := "fnExactStepStart", fn := fun _ => fun
  | [d] => { results := [.lit (.bool false)], args := [d] }
  | _ => none }
def FnExactStepStartWrongFalsely : Prop := fnExactStepStartRow.holds Try.pinned (OpenSpec.ofChange fnExactStepStartWrong)

/-- 'laws.FnExactIsBounded': WHATEVER THE INPUT: true; the input reads as it did. -/
def fnExactIsBoundedSpec : ChangeSpec := { name := "fnExactIsBounded", fn := fun _ => fun
  | [d] => { results := [.lit (.bool true)], args := [d] }
  | _ => none }
def fnExactIsBoundedRow : OpenClaim := { program := "ytncobgjmochecab", sum := "82524ae7f21b5fde15ddde3d2b36762000fcd04ff78c69f69a55b86c0e822253", func := "loop.example/g03000/laws.FnExactIsBounded", spec := "fnExactIsBounded", recurses := true, apart := false }
def FnExactIsBoundedSaid : Prop := fnExactIsBoundedRow.holds Try.pinned (OpenSpec.ofChange fnExactIsBoundedSpec)

/-- ITS FALSE NEIGHBOUR: 'it returns false'. Refute it at one input. -/
def fnExactIsBoundedWrong : ChangeSpec := { name := "fnExactIsBounded", fn := fun _ => fun
  | [d] => { results := [.lit (.bool false)], args := [d] }
  | _ => none }
def FnExactIsBoundedWrongFalsely : Prop := fnExactIsBoundedRow.holds Try.pinned (OpenSpec.ofChange fnExactIsBoundedWrong)

/- THE SECOND FORM. 'bulk': how many values and letters a reading holds, each counted each time it is reached (what is shared counts as often as it is met; a slice's spare places count too). A statement '..UptoSaid' is the law's where the arguments, and the package variables that the reading takes, are together of bulk at most 1048576: NARROWER than '..Said'. Prove '..Said' where nothing that the law and all that it calls make is longer than what came in: it says more and counts as full. Else prove '..UptoSaid'. A law counts once. -/
mutual
def uptoBulk {H : Type} : DataW H → Nat
  | .lit (.string bytes) => bytes.length + 1
  | .lit _ => 1
  | .nil => 1
  | .ptr d => uptoBulk d + 1
  | .slice elems spare => uptoBulkAll elems + uptoBulkAll spare + 1
  | .agg parts => uptoBulkAll parts + 1
  | .iface _ d => uptoBulk d + 1
  | .map entries => uptoBulkEntries entries + 1
  | .held _ => 1
def uptoBulkAll {H : Type} : List (DataW H) → Nat
  | [] => 0
  | d :: r => uptoBulk d + uptoBulkAll r
def uptoBulkEntries {H : Type} : List (Lit × DataW H) → Nat
  | [] => 0
  | x :: r => uptoBulkEntry x + uptoBulkEntries r
def uptoBulkEntry {H : Type} : Lit × DataW H → Nat
  | (.string bytes, d) => bytes.length + uptoBulk d + 1
  | (_, d) => uptoBulk d + 1
 end
def uptoSmall : (H : Type) → List (DataW H) → Bool := fun _ ds => decide (uptoBulkAll ds ≤ 1048576)
def OpenSpec.upto (s : _root_.Go.ChangeSpec) : _root_.Go.OpenSpec := { _root_.Go.OpenSpec.ofChange s with cond := some uptoSmall }

/-- 'laws.FnExactEnterStage', WHERE WHAT IT READS IS OF BULK AT MOST 1048576: true; the input reads as it did. -/
def fnExactEnterStageUptoRow : OpenClaim := { program := "ytncobgjmochecab", sum := "82524ae7f21b5fde15ddde3d2b36762000fcd04ff78c69f69a55b86c0e822253", func := "loop.example/g03000/laws.FnExactEnterStage", spec := "fnExactEnterStage", inPlace := ["slices.overlaps[int]"], apart := false, narrowed := true }
def FnExactEnterStageUptoSaid : Prop := fnExactEnterStageUptoRow.holds Try.pinned (OpenSpec.upto fnExactEnterStageSpec)

/-- 'laws.FnExactHurtEnds', WHERE WHAT IT READS IS OF BULK AT MOST 1048576: true; the input reads as it did. -/
def fnExactHurtEndsUptoRow : OpenClaim := { program := "ytncobgjmochecab", sum := "82524ae7f21b5fde15ddde3d2b36762000fcd04ff78c69f69a55b86c0e822253", func := "loop.example/g03000/laws.FnExactHurtEnds", spec := "fnExactHurtEnds", recurses := true, apart := false, narrowed := true }
def FnExactHurtEndsUptoSaid : Prop := fnExactHurtEndsUptoRow.holds Try.pinned (OpenSpec.upto fnExactHurtEndsSpec)

/-- 'laws.FnExactStepStart', WHERE WHAT IT READS IS OF BULK AT MOST 1048576: true; the input reads as it did. -/
def fnExactStepStartUptoRow : OpenClaim := { program := "ytncobgjmochecab", sum := "82524ae7f21b5fde15ddde3d2b36762000fcd04ff78c69f69a55b86c0e822253", func := "loop.example/g03000/laws.FnExactStepStart", spec := "fnExactStepStart", inPlace := ["slices.overlaps[int]"], apart := false, narrowed := true }
def FnExactStepStartUptoSaid : Prop := fnExactStepStartUptoRow.holds Try.pinned (OpenSpec.upto fnExactStepStartSpec)

/-- 'laws.FnExactIsBounded', WHERE WHAT IT READS IS OF BULK AT MOST 1048576: true; the input reads as it did. -/
def fnExactIsBoundedUptoRow : OpenClaim := { program := "ytncobgjmochecab", sum := "82524ae7f21b5fde15ddde3d2b36762000fcd04ff78c69f69a55b86c0e822253", func := "loop.example/g03000/laws.FnExactIsBounded", spec := "fnExactIsBounded", recurses := true, apart := false, narrowed := true }
def FnExactIsBoundedUptoSaid : Prop := fnExactIsBoundedUptoRow.holds Try.pinned (OpenSpec.upto fnExactIsBoundedSpec)

end Rows
end Go.Proofs.Ytncobgjmochecab
