/-
  No cell of these rows narrows 'for every input' (looked for: loops, veiled, ifaces, maps, wideKeys, modest, calm, conditions, laid).
  DERIVED. THE GIVEN ROWS OF THIS SEAT. 3 by the template 'for every input the law returns true; each argument reads behind the call as it read before'; 0 by the template 'total and deterministic' (their statements: YtcgnjpoingikcaaTotals.lean).
  GIVEN WITH THE SEED: the statements are not yours to turn. If you find one false, say at which input.
  Laid BY PROGRAM, IN A SANDBOX (cutbox-rows.mjs): the forced cells as the released guide's own fill.sh prints them over the translation 28b7103071b39799… (all of the seat's roots in one cut). By AI agents, Wed Nov 11 2026. No macro, syntax, notation, axiom, sorry.
-/
import Derived.Test.YtcgnjpoingikcaaChecked
import GoSem.Claim
import GoSem.ClaimJoined
import GoSem.ClaimMapViews
import Derived.JoinedTies
import Derived.KernelRfl
namespace Go.Proofs.Ytcgnjpoingikcaa
/- THE CELL 'sum', in the pinned program and in every row, IS THE sha256 OF THE DUMP (.gsa) THAT YtcgnjpoingikcaaProg.lean LOADS. Nothing in Lean hashes anything: it is a label: what it is worth is what the hold of that sum in a sandbox is worth. -/
noncomputable def Try.pinned : Pinned := { name := "ytcgnjpoingikcaa", sum := "28b7103071b397996428c0d881558fe47d82902c156d205e7964d5e5305b847b", checked := Try.checked }
namespace Rows
def none {H : Type} : Left H := { results := [], args := [] }

/-- 'laws.FnExactTriesOf': WHATEVER THE INPUT: true; the input reads as it did. -/
def fnExactTriesOfSpec : ChangeSpec := { name := "fnExactTriesOf", fn := fun _ => fun
  | [d] => { results := [.lit (.bool true)], args := [d] }
  | _ => none }
def fnExactTriesOfRow : OpenClaim := { program := "ytcgnjpoingikcaa", sum := "28b7103071b397996428c0d881558fe47d82902c156d205e7964d5e5305b847b", func := "loop.example/g03000/laws.FnExactTriesOf", spec := "fnExactTriesOf", apart := false }
def FnExactTriesOfSaid : Prop := fnExactTriesOfRow.holds Try.pinned (OpenSpec.ofChange fnExactTriesOfSpec)

/-- ITS FALSE NEIGHBOUR: 'it returns false'. Refute it at one input. -/
def fnExactTriesOfWrong : ChangeSpec := { name := "fnExactTriesOf", fn := fun _ => fun
  | [d] => { results := [.lit (.bool false)], args := [d] }
  | _ => none }
def FnExactTriesOfWrongFalsely : Prop := fnExactTriesOfRow.holds Try.pinned (OpenSpec.ofChange fnExactTriesOfWrong)

/-- 'laws.FnExactDialsBy': WHATEVER THE INPUT: true; the input reads as it did. -/
def fnExactDialsBySpec : ChangeSpec := { name := "fnExactDialsBy", fn := fun _ => fun
  | [d1, d2] => { results := [.lit (.bool true)], args := [d1, d2] }
  | _ => none }
def fnExactDialsByRow : OpenClaim := { program := "ytcgnjpoingikcaa", sum := "28b7103071b397996428c0d881558fe47d82902c156d205e7964d5e5305b847b", func := "loop.example/g03000/laws.FnExactDialsBy", spec := "fnExactDialsBy", apart := false }
def FnExactDialsBySaid : Prop := fnExactDialsByRow.holds Try.pinned (OpenSpec.ofChange fnExactDialsBySpec)

/-- ITS FALSE NEIGHBOUR: 'it returns false'. Refute it at one input. -/
def fnExactDialsByWrong : ChangeSpec := { name := "fnExactDialsBy", fn := fun _ => fun
  | [d1, d2] => { results := [.lit (.bool false)], args := [d1, d2] }
  | _ => none }
def FnExactDialsByWrongFalsely : Prop := fnExactDialsByRow.holds Try.pinned (OpenSpec.ofChange fnExactDialsByWrong)

/-- 'laws.FnExactOkShare': WHATEVER THE INPUT: true; the input reads as it did. -/
def fnExactOkShareSpec : ChangeSpec := { name := "fnExactOkShare", fn := fun _ => fun
  | [d] => { results := [.lit (.bool true)], args := [d] }
  | _ => none }
def fnExactOkShareRow : OpenClaim := { program := "ytcgnjpoingikcaa", sum := "28b7103071b397996428c0d881558fe47d82902c156d205e7964d5e5305b847b", func := "loop.example/g03000/laws.FnExactOkShare", spec := "fnExactOkShare", apart := false }
def FnExactOkShareSaid : Prop := fnExactOkShareRow.holds Try.pinned (OpenSpec.ofChange fnExactOkShareSpec)

/-- ITS FALSE NEIGHBOUR: 'it returns false'. Refute it at one input. -/
def fnExactOkShareWrong : ChangeSpec := { name := "fnExactOkShare", fn := fun _ => fun
  | [d] => { results := [.lit (.bool false)], args := [d] }
  | _ => none }
def FnExactOkShareWrongFalsely : Prop := fnExactOkShareRow.holds Try.pinned (OpenSpec.ofChange fnExactOkShareWrong)

/- THE SECOND FORM. 'bulk': how many values and letters a reading holds, each counted each time it is reached (what is shared counts as often as it is met; a slice's spare places count too). A statement '..UptoSaid' is the law's where the arguments, and the package variables that the reading takes, are together of bulk at most 1048576: NARROWER than '..Said'. Prove '..Said' where nothing that the law and all that it calls make is longer than what came in: it says more and counts as full. Else prove '..UptoSaid'. A law counts once. -/
mutual
def uptoBulk {H : Type} : DataW H → Nat
  | .lit (.string bytes) => bytes.length + 1
  | .lit _ => 1
  | .nil => 1
  | .ptr d => uptoBulk d + 1
  | .slice elems spare => uptoBulkAll elems + uptoBulkAll spare + 1
  | .agg parts => uptoBulkAll parts + 1
  | .iface _ d => uptoBulk d + 1
  | .map entries => uptoBulkEntries entries + 1
  | .held _ => 1
def uptoBulkAll {H : Type} : List (DataW H) → Nat
  | [] => 0
  | d :: r => uptoBulk d + uptoBulkAll r
def uptoBulkEntries {H : Type} : List (Lit × DataW H) → Nat
  | [] => 0
  | x :: r => uptoBulkEntry x + uptoBulkEntries r
def uptoBulkEntry {H : Type} : Lit × DataW H → Nat
  | (.string bytes, d) => bytes.length + uptoBulk d + 1
  | (_, d) => uptoBulk d + 1
 end
def uptoSmall : (H : Type) → List (DataW H) → Bool := fun _ ds => decide (uptoBulkAll ds ≤ 1048576)
def OpenSpec.upto (s : _root_.Go.ChangeSpec) : _root_.Go.OpenSpec := { _root_.Go.OpenSpec.ofChange s with cond := some uptoSmall }

/-- 'laws.FnExactTriesOf', WHERE WHAT IT READS IS OF BULK AT MOST 1048576: true; the input reads as it did. -/
def fnExactTriesOfUptoRow : OpenClaim := { program := "ytcgnjpoingikcaa", sum := "28b7103071b397996428c0d881558fe47d82902c156d205e7964d5e5305b847b", func := "loop.example/g03000/laws.FnExactTriesOf", spec := "fnExactTriesOf", apart := false, narrowed := true }
def FnExactTriesOfUptoSaid : Prop := fnExactTriesOfUptoRow.holds Try.pinned (OpenSpec.upto fnExactTriesOfSpec)

/-- 'laws.FnExactDialsBy', WHERE WHAT IT READS IS OF BULK AT MOST 1048576: true; the input reads as it did. -/
def fnExactDialsByUptoRow : OpenClaim := { program := "ytcgnjpoingikcaa", sum := "28b7103071b397996428c0d881558fe47d82902c156d205e7964d5e5305b847b", func := "loop.example/g03000/laws.FnExactDialsBy", spec := "fnExactDialsBy", apart := false, narrowed := true }
def FnExactDialsByUptoSaid : Prop := fnExactDialsByUptoRow.holds Try.pinned (OpenSpec.upto fnExactDialsBySpec)

/-- 'laws.FnExactOkShare', WHERE WHAT IT READS IS OF BULK AT MOST 1048576: true; the input reads as it did. -/
def fnExactOkShareUptoRow : OpenClaim := { program := "ytcgnjpoingikcaa", sum := "28b7103071b397996428c0d881558fe47d82902c156d205e7964d5e5305b847b", func := "loop.example/g03000/laws.FnExactOkShare", spec := "fnExactOkShare", apart := false, narrowed := true }
def FnExactOkShareUptoSaid : Prop := fnExactOkShareUptoRow.holds Try.pinned (OpenSpec.upto fnExactOkShareSpec)

end Rows
end Go.Proofs.Ytcgnjpoingikcaa
