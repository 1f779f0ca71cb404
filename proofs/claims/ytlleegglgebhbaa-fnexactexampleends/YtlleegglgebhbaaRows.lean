/-
  No cell of these rows narrows 'for every input' (looked for: loops, veiled, ifaces, maps, wideKeys, modest, calm, conditions, laid).
  DERIVED. THE GIVEN ROWS OF THIS SEAT. 4 by the template 'for every input the law returns true; each argument reads behind the call as it read before'; 0 by the template 'total and deterministic' (their statements: YtlleegglgebhbaaTotals.lean).
  GIVEN WITH THE SEED: the statements are not yours to turn. If you find one false, say at which input.
  Laid BY PROGRAM, IN A SANDBOX (cutbox-rows.mjs): the forced cells as the released guide's own fill.sh prints them over the translation 0d6bac74de4afaa8… (all of the seat's roots in one cut). By AI agents, Wed Nov 11 2026. No macro, syntax, notation, axiom, sorry.
-/
import Derived.Test.YtlleegglgebhbaaChecked
import GoSem.Claim
import GoSem.ClaimJoined
import GoSem.ClaimMapViews
import Derived.JoinedTies
import Derived.KernelRfl
namespace Go.Proofs.Ytlleegglgebhbaa
/- THE CELL 'sum', in the pinned program and in every row, IS THE sha256 OF THE DUMP (.gsa) THAT YtlleegglgebhbaaProg.lean LOADS. Nothing in Lean hashes anything: it is a label: what it is worth is what the hold of that sum in a sandbox is worth. -/
noncomputable def Try.pinned : Pinned := { name := "ytlleegglgebhbaa", sum := "0d6bac74de4afaa8ed3ddc884f1bad263014a69f537b7aac61f3efea05cc5858", checked := Try.checked }
namespace Rows
def none {H : Type} : Left H := { results := [], args := [] }

/-- 'laws.FnExactEventName': WHATEVER THE INPUT: true; the input reads as it did. -/
def fnExactEventNameSpec : ChangeSpec := { name := "fnExactEventName", fn := fun _ => fun
  | [d] => { results := [.lit (.bool true)], args := [d] }
  | _ => none }
def fnExactEventNameRow : OpenClaim := { program := "ytlleegglgebhbaa", sum := "0d6bac74de4afaa8ed3ddc884f1bad263014a69f537b7aac61f3efea05cc5858", func := "loop.example/g03000/laws.FnExactEventName", spec := "fnExactEventName", apart := false }
def FnExactEventNameSaid : Prop := fnExactEventNameRow.holds Try.pinned (OpenSpec.ofChange fnExactEventNameSpec)

/-- ITS FALSE NEIGHBOUR: 'it returns false'. Refute it at one input. -/
def fnExactEventNameWrong : ChangeSpec := { name := "fnExactEventName", fn := fun _ => fun
  | [d] => { results := [.lit (.bool false)], args := [d] }
  | _ => none }
def FnExactEventNameWrongFalsely : Prop := fnExactEventNameRow.holds Try.pinned (OpenSpec.ofChange fnExactEventNameWrong)

/-- 'laws.FnExactIsBadDial': WHATEVER THE INPUT: true; the input reads as it did. -/
def fnExactIsBadDialSpec : ChangeSpec := { name := "fnExactIsBadDial", fn := fun _ => fun
  | [d1, d2] => { results := [.lit (.bool true)], args := [d1, d2] }
  | _ => none }
def fnExactIsBadDialRow : OpenClaim := { program := "ytlleegglgebhbaa", sum := "0d6bac74de4afaa8ed3ddc884f1bad263014a69f537b7aac61f3efea05cc5858", func := "loop.example/g03000/laws.FnExactIsBadDial", spec := "fnExactIsBadDial", apart := false }
def FnExactIsBadDialSaid : Prop := fnExactIsBadDialRow.holds Try.pinned (OpenSpec.ofChange fnExactIsBadDialSpec)

/-- ITS FALSE NEIGHBOUR: 'it returns false'. Refute it at one input. -/
def fnExactIsBadDialWrong : ChangeSpec := { name := "fnExactIsBadDial", fn := fun _ => fun
  | [d1, d2] => { results := [.lit (.bool false)], args := [d1, d2] }
  | _ => none }
def FnExactIsBadDialWrongFalsely : Prop := fnExactIsBadDialRow.holds Try.pinned (OpenSpec.ofChange fnExactIsBadDialWrong)

/-- 'laws.FnExactCountKind': WHATEVER THE INPUT: true; the input reads as it did. -/
def fnExactCountKindSpec : ChangeSpec := { name := "fnExactCountKind", fn := fun _ => fun
  | [d1, d2] => { results := [.lit (.bool true)], args := [d1, d2] }
  | _ => none }
def fnExactCountKindRow : OpenClaim := { program := "ytlleegglgebhbaa", sum := "0d6bac74de4afaa8ed3ddc884f1bad263014a69f537b7aac61f3efea05cc5858", func := "loop.example/g03000/laws.FnExactCountKind", spec := "fnExactCountKind", apart := false }
def FnExactCountKindSaid : Prop := fnExactCountKindRow.holds Try.pinned (OpenSpec.ofChange fnExactCountKindSpec)

/-- ITS FALSE NEIGHBOUR: 'it returns false'. Refute it at one input. -/
def fnExactCountKindWrong : ChangeSpec := { name := "fnExactCountKind", fn := fun _ => fun
  | [d1, d2] => { results := [.lit (.bool false)], args := [d1, d2] }
  | _ => none }
def FnExactCountKindWrongFalsely : Prop := fnExactCountKindRow.holds Try.pinned (OpenSpec.ofChange fnExactCountKindWrong)

/-- 'laws.FnExactExampleEnds': WHATEVER THE INPUT: true; the input reads as it did. -/
def fnExactExampleEndsSpec : ChangeSpec := { name := "fnExactExampleEnds", fn := fun _ => fun
  | [d] => { results := [.lit (.bool true)], args := [d] }
  | _ => none }
def fnExactExampleEndsRow : OpenClaim := { program := "ytlleegglgebhbaa", sum := "0d6bac74de4afaa8ed3ddc884f1bad263014a69f537b7aac61f3efea05cc5858", func := "loop.example/g03000/laws.FnExactExampleEnds", spec := "fnExactExampleEnds", apart := false }
def FnExactExampleEndsSaid : Prop := fnExactExampleEndsRow.holds Try.pinned (OpenSpec.ofChange fnExactExampleEndsSpec)

/-- ITS FALSE NEIGHBOUR: 'it returns false'. Refute it at one input. -/
def fnExactExampleEndsWrong : ChangeSpec := { name := "fnExactExampleEnds", fn := fun _ => fun
  | [d] => { results := [.lit (.bool false)], args := [d] }
  | _ => none }
def FnExactExampleEndsWrongFalsely : Prop := fnExactExampleEndsRow.holds Try.pinned (OpenSpec.ofChange fnExactExampleEndsWrong)

/- THE SECOND FORM. 'bulk': how many values and letters a reading holds, each counted each time it is reached (what is shared counts as often as it is met; a slice's spare places count too). A statement '..UptoSaid' is the law's where the arguments, and the package variables that the reading takes, are together of bulk at most 1048576: NARROWER than '..Said'. Prove '..Said' where nothing that the law and all that it calls make is longer than what came in: it says more and counts as full. Else prove '..UptoSaid'. A law counts once. -/
mutual
def uptoBulk {H : Type} : DataW H → Nat
  | .lit (.string bytes) => bytes.length + 1
  | .lit _ => 1
  | .nil => 1
  | .ptr d => uptoBulk d + 1
  | .slice elems spare => uptoBulkAll elems + uptoBulkAll spare + 1
  | .agg parts => uptoBulkAll parts + 1
  | .iface _ d => uptoBulk d + 1
  | .map entries => uptoBulkEntries entries + 1
  | .held _ => 1
def uptoBulkAll {H : Type} : List (DataW H) → Nat
  | [] => 0
  | d :: r => uptoBulk d + uptoBulkAll r
def uptoBulkEntries {H : Type} : List (Lit × DataW H) → Nat
  | [] => 0
  | x :: r => uptoBulkEntry x + uptoBulkEntries r
def uptoBulkEntry {H : Type} : Lit × DataW H → Nat
  | (.string bytes, d) => bytes.length + uptoBulk d + 1
  | (_, d) => uptoBulk d + 1
 end
def uptoSmall : (H : Type) → List (DataW H) → Bool := fun _ ds => decide (uptoBulkAll ds ≤ 1048576)
def OpenSpec.upto (s : _root_.Go.ChangeSpec) : _root_.Go.OpenSpec := { _root_.Go.OpenSpec.ofChange s with cond := some uptoSmall }

/-- 'laws.FnExactEventName', WHERE WHAT IT READS IS OF BULK AT MOST 1048576: true; the input reads as it did. -/
def fnExactEventNameUptoRow : OpenClaim := { program := "ytlleegglgebhbaa", sum := "0d6bac74de4afaa8ed3ddc884f1bad263014a69f537b7aac61f3efea05cc5858", func := "loop.example/g03000/laws.FnExactEventName", spec := "fnExactEventName", apart := false, narrowed := true }
def FnExactEventNameUptoSaid : Prop := fnExactEventNameUptoRow.holds Try.pinned (OpenSpec.upto fnExactEventNameSpec)

/-- 'laws.FnExactIsBadDial', WHERE WHAT IT READS IS OF BULK AT MOST 1048576: true; the input reads as it did. -/
def fnExactIsBadDialUptoRow : OpenClaim := { program := "ytlleegglgebhbaa", sum := "0d6bac74de4afaa8ed3ddc884f1bad263014a69f537b7aac61f3efea05cc5858", func := "loop.example/g03000/laws.FnExactIsBadDial", spec := "fnExactIsBadDial", apart := false, narrowed := true }
def FnExactIsBadDialUptoSaid : Prop := fnExactIsBadDialUptoRow.holds Try.pinned (OpenSpec.upto fnExactIsBadDialSpec)

/-- 'laws.FnExactCountKind', WHERE WHAT IT READS IS OF BULK AT MOST 1048576: true; the input reads as it did. -/
def fnExactCountKindUptoRow : OpenClaim := { program := "ytlleegglgebhbaa", sum := "0d6bac74de4afaa8ed3ddc884f1bad263014a69f537b7aac61f3efea05cc5858", func := "loop.example/g03000/laws.FnExactCountKind", spec := "fnExactCountKind", apart := false, narrowed := true }
def FnExactCountKindUptoSaid : Prop := fnExactCountKindUptoRow.holds Try.pinned (OpenSpec.upto fnExactCountKindSpec)

/-- 'laws.FnExactExampleEnds', WHERE WHAT IT READS IS OF BULK AT MOST 1048576: true; the input reads as it did. -/
def fnExactExampleEndsUptoRow : OpenClaim := { program := "ytlleegglgebhbaa", sum := "0d6bac74de4afaa8ed3ddc884f1bad263014a69f537b7aac61f3efea05cc5858", func := "loop.example/g03000/laws.FnExactExampleEnds", spec := "fnExactExampleEnds", apart := false, narrowed := true }
def FnExactExampleEndsUptoSaid : Prop := fnExactExampleEndsUptoRow.holds Try.pinned (OpenSpec.upto fnExactExampleEndsSpec)

end Rows
end Go.Proofs.Ytlleegglgebhbaa
