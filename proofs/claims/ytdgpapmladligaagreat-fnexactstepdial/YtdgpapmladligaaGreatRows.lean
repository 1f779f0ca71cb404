/-
  No cell of these rows narrows 'for every input' (looked for: loops, veiled, ifaces, maps, wideKeys, modest, calm, conditions, laid).
  DERIVED. THE GIVEN ROWS OF THIS SEAT. 6 by the template 'for every input the law returns true; each argument reads behind the call as it read before'; 0 by the template 'total and deterministic' (their statements: YtdgpapmladligaaGreatTotals.lean).
  GIVEN WITH THE SEED: the statements are not yours to turn. If you find one false, say at which input.
  Laid BY PROGRAM, IN A SANDBOX (cutbox-rows.mjs): the forced cells as the released guide's own fill.sh prints them over the translation 14c50fb868721d01… (all of the seat's roots in one cut). By AI agents, Wed Nov 11 2026. No macro, syntax, notation, axiom, sorry.
-/
import Derived.Test.YtdgpapmladligaaGreatChecked
import GoSem.Claim
import GoSem.ClaimJoined
import GoSem.ClaimMapViews
import Derived.JoinedTies
import Derived.KernelRfl
namespace Go.Proofs.YtdgpapmladligaaGreat
/- THE CELL 'sum', in the pinned program and in every row, IS THE sha256 OF THE DUMP (.gsa) THAT YtdgpapmladligaaGreatProg.lean LOADS. Nothing in Lean hashes anything: it is a label: what it is worth is what the hold of that sum in a sandbox is worth. -/
noncomputable def Tryz.pinned : Pinned := { name := "ytdgpapmladligaagreat", sum := "14c50fb868721d013c01b96831af7cd813eef7dbd094debd8f69dd58ff373922", checked := Tryz.checked }
namespace Rows
def none {H : Type} : Left H := { results := [], args := [] }

/-- 'laws.FnStages': WHATEVER THE INPUT: true; the input reads as it did. -/
def fnStagesSpec : ChangeSpec := { name := "fnStages", fn := fun _ => fun
  | [d] => { results := [.lit (.bool true)], args := [d] }
  | _ => none }
def fnStagesRow : OpenClaim := { program := "ytdgpapmladligaagreat", sum := "14c50fb868721d013c01b96831af7cd813eef7dbd094debd8f69dd58ff373922", func := "loop.example/g03000/laws.FnStages", spec := "fnStages", inPlace := ["slices.overlaps[int]"], unfollowed := true, recurses := true, apart := false }
def FnStagesSaid : Prop := fnStagesRow.holds Tryz.pinned (OpenSpec.ofChange fnStagesSpec)

/-- ITS FALSE NEIGHBOUR: 'it returns false'. Refute it at one input. -/
def fnStagesWrong : ChangeSpec := { name := "fnStages", fn := fun _ => fun
  | [d] => { results := [.lit (.bool false)], args := [d] }
  | _ => none }
def FnStagesWrongFalsely : Prop := fnStagesRow.holds Tryz.pinned (OpenSpec.ofChange fnStagesWrong)

/-- 'laws.FnMeasured': WHATEVER THE INPUT: true; the input reads as it did. -/
def fnMeasuredSpec : ChangeSpec := { name := "fnMeasured", fn := fun _ => fun
  | [d] => { results := [.lit (.bool true)], args := [d] }
  | _ => none }
def fnMeasuredRow : OpenClaim := { program := "ytdgpapmladligaagreat", sum := "14c50fb868721d013c01b96831af7cd813eef7dbd094debd8f69dd58ff373922", func := "loop.example/g03000/laws.FnMeasured", spec := "fnMeasured", unfollowed := true, recurses := true, apart := false }
def FnMeasuredSaid : Prop := fnMeasuredRow.holds Tryz.pinned (OpenSpec.ofChange fnMeasuredSpec)

/-- ITS FALSE NEIGHBOUR: 'it returns false'. Refute it at one input. -/
def fnMeasuredWrong : ChangeSpec := { name := "fnMeasured", fn := fun _ => fun
  | [d] => { results := [.lit (.bool false)], args := [d] }
  | _ => none }
def FnMeasuredWrongFalsely : Prop := fnMeasuredRow.holds Tryz.pinned (OpenSpec.ofChange fnMeasuredWrong)

/-- 'laws.FnDialing': WHATEVER THE INPUT: true; the input reads as it did. -/
def fnDialingSpec : ChangeSpec := { name := "fnDialing", fn := fun _ => fun
  | [d] => { results := [.lit (.bool true)], args := [d] }
  | _ => none }
def fnDialingRow : OpenClaim := { program := "ytdgpapmladligaagreat", sum := "14c50fb868721d013c01b96831af7cd813eef7dbd094debd8f69dd58ff373922", func := "loop.example/g03000/laws.FnDialing", spec := "fnDialing", inPlace := ["slices.overlaps[loop.example/g03000/impl.Ext]"], unfollowed := true, recurses := true, apart := false }
def FnDialingSaid : Prop := fnDialingRow.holds Tryz.pinned (OpenSpec.ofChange fnDialingSpec)

/-- ITS FALSE NEIGHBOUR: 'it returns false'. Refute it at one input. -/
def fnDialingWrong : ChangeSpec := { name := "fnDialing", fn := fun _ => fun
  | [d] => { results := [.lit (.bool false)], args := [d] }
  | _ => none }
def FnDialingWrongFalsely : Prop := fnDialingRow.holds Tryz.pinned (OpenSpec.ofChange fnDialingWrong)

/-- 'laws.FnExactIsTogether': WHATEVER THE INPUT: true; the input reads as it did. -/
def fnExactIsTogetherSpec : ChangeSpec := { name := "fnExactIsTogether", fn := fun _ => fun
  | [d] => { results := [.lit (.bool true)], args := [d] }
  | _ => none }
def fnExactIsTogetherRow : OpenClaim := { program := "ytdgpapmladligaagreat", sum := "14c50fb868721d013c01b96831af7cd813eef7dbd094debd8f69dd58ff373922", func := "loop.example/g03000/laws.FnExactIsTogether", spec := "fnExactIsTogether", inPlace := ["slices.overlaps[loop.example/g03000/impl.Ext]"], unfollowed := true, recurses := true, apart := false }
def FnExactIsTogetherSaid : Prop := fnExactIsTogetherRow.holds Tryz.pinned (OpenSpec.ofChange fnExactIsTogetherSpec)

/-- ITS FALSE NEIGHBOUR: 'it returns false'. Refute it at one input. -/
def fnExactIsTogetherWrong : ChangeSpec := { name := "fnExactIsTogether", fn := fun _ => fun
  | [d] => { results := [.lit (.bool false)], args := [d] }
  | _ => none }
def FnExactIsTogetherWrongFalsely : Prop := fnExactIsTogetherRow.holds Tryz.pinned (OpenSpec.ofChange fnExactIsTogetherWrong)

/-- 'laws.FnExactDialOf': WHATEVER THE INPUT: true; the input reads as it did. -/
def fnExactDialOfSpec : ChangeSpec := { name := "fnExactDialOf", fn := fun _ => fun
  | [d1, d2] => { results := [.lit (.bool true)], args := [d1, d2] }
  | _ => none }
def fnExactDialOfRow : OpenClaim := { program := "ytdgpapmladligaagreat", sum := "14c50fb868721d013c01b96831af7cd813eef7dbd094debd8f69dd58ff373922", func := "loop.example/g03000/laws.FnExactDialOf", spec := "fnExactDialOf", inPlace := ["slices.overlaps[loop.example/g03000/impl.Ext]"], unfollowed := true, recurses := true, apart := false }
def FnExactDialOfSaid : Prop := fnExactDialOfRow.holds Tryz.pinned (OpenSpec.ofChange fnExactDialOfSpec)

/-- ITS FALSE NEIGHBOUR: 'it returns false'. Refute it at one input. -/
def fnExactDialOfWrong : ChangeSpec := { name := "fnExactDialOf", fn := fun _ => fun
  | [d1, d2] => { results := [.lit (.bool false)], args := [d1, d2] }
  | _ => none }
def FnExactDialOfWrongFalsely : Prop := fnExactDialOfRow.holds Tryz.pinned (OpenSpec.ofChange fnExactDialOfWrong)

/-- 'laws.FnExactStepDial': WHATEVER THE INPUT: true; the input reads as it did. -/
def fnExactStepDialSpec : ChangeSpec := { name := "fnExactStepDial", fn := fun _ => fun
  | [d1, d2] => { results := [.lit (.bool true)], args := [d1, d2] }
  | _ => none }
def fnExactStepDialRow : OpenClaim := { program := "ytdgpapmladligaagreat", sum := "14c50fb868721d013c01b96831af7cd813eef7dbd094debd8f69dd58ff373922", func := "loop.example/g03000/laws.FnExactStepDial", spec := "fnExactStepDial", inPlace := ["slices.overlaps[loop.example/g03000/impl.Ext]"], unfollowed := true, recurses := true, apart := false }
def FnExactStepDialSaid : Prop := fnExactStepDialRow.holds Tryz.pinned (OpenSpec.ofChange fnExactStepDialSpec)

/-- ITS FALSE NEIGHBOUR: 'it returns false'. Refute it at one input. -/
def fnExactStepDialWrong : ChangeSpec := { name := "fnExactStepDial", fn := fun _ => fun
  | [d1, d2] => { results := [.lit (.bool false)], args := [d1, d2] }
  | _ => none }
def FnExactStepDialWrongFalsely : Prop := fnExactStepDialRow.holds Tryz.pinned (OpenSpec.ofChange fnExactStepDialWrong)

/- THE SECOND FORM. 'bulk': how many values and letters a reading holds, each counted each time it is reached (what is shared counts as often as it is met; a slice's spare places count too). A statement '..UptoSaid' is the law's where the arguments, and the package variables that the reading takes, are together of bulk at most 1048576: NARROWER than '..Said'. Prove '..Said' where nothing that the law and all that it calls make is longer than what came in: it says more and counts as full. Else prove '..UptoSaid'. A law counts once. -/
mutual
def uptoBulk {H : Type} : DataW H → Nat
  | .lit (.string bytes) => bytes.length + 1
  | .lit _ => 1
  | .nil => 1
  | .ptr d => uptoBulk d + 1
  | .slice elems spare => uptoBulkAll elems + uptoBulkAll spare + 1
  | .agg parts => uptoBulkAll parts + 1
  | .iface _ d => uptoBulk d + 1
  | .map entries => uptoBulkEntries entries + 1
  | .held _ => 1
def uptoBulkAll {H : Type} : List (DataW H) → Nat
  | [] => 0
  | d :: r => uptoBulk d + uptoBulkAll r
def uptoBulkEntries {H : Type} : List (Lit × DataW H) → Nat
  | [] => 0
  | x :: r => uptoBulkEntry x + uptoBulkEntries r
def uptoBulkEntry {H : Type} : Lit × DataW H → Nat
  | (.string bytes, d) => bytes.length + uptoBulk d + 1
  | (_, d) => uptoBulk d + 1
 end
def uptoSmall : (H : Type) → List (DataW H) → Bool := fun _ ds => decide (uptoBulkAll ds ≤ 1048576)
def OpenSpec.upto (s : _root_.Go.ChangeSpec) : _root_.Go.OpenSpec := { _root_.Go.OpenSpec.ofChange s with cond := some uptoSmall }

/-- 'laws.FnStages', WHERE WHAT IT READS IS OF BULK AT MOST 1048576: true; the input reads as it did. -/
def fnStagesUptoRow : OpenClaim := { program := "ytdgpapmladligaagreat", sum := "14c50fb868721d013c01b96831af7cd813eef7dbd094debd8f69dd58ff373922", func := "loop.example/g03000/laws.FnStages", spec := "fnStages", inPlace := ["slices.overlaps[int]"], unfollowed := true, recurses := true, apart := false, narrowed := true }
def FnStagesUptoSaid : Prop := fnStagesUptoRow.holds Tryz.pinned (OpenSpec.upto fnStagesSpec)

/-- 'laws.FnMeasured', WHERE WHAT IT READS IS OF BULK AT MOST 1048576: true; the input reads as it did. -/
def fnMeasuredUptoRow : OpenClaim := { program := "ytdgpapmladligaagreat", sum := "14c50fb868721d013c01b96831af7cd813eef7dbd094debd8f69dd58ff373922", func := "loop.example/g03000/laws.FnMeasured", spec := "fnMeasured", unfollowed := true, recurses := true, apart := false, narrowed := true }
def FnMeasuredUptoSaid : Prop := fnMeasuredUptoRow.holds Tryz.pinned (OpenSpec.upto fnMeasuredSpec)

/-- 'laws.FnDialing', WHERE WHAT IT READS IS OF BULK AT MOST 1048576: true; the input reads as it did. -/
def fnDialingUptoRow : OpenClaim := { program := "ytdgpapmladligaagreat", sum := "14c50fb868721d013c01b96831af7cd813eef7dbd094debd8f69dd58ff373922", func := "loop.example/g03000/laws.FnDialing", spec := "fnDialing", inPlace := ["slices.overlaps[loop.example/g03000/impl.Ext]"], unfollowed := true, recurses := true, apart := false, narrowed := true }
def FnDialingUptoSaid : Prop := fnDialingUptoRow.holds Tryz.pinned (OpenSpec.upto fnDialingSpec)

/-- 'laws.FnExactIsTogether', WHERE WHAT IT READS IS OF BULK AT MOST 1048576: true; the input reads as it did. -/
def fnExactIsTogetherUptoRow : OpenClaim := { program := "ytdgpapmladligaagreat", sum := "14c50fb868721d013c01b96831af7cd813eef7dbd094debd8f69dd58ff373922", func := "loop.example/g03000/laws.FnExactIsTogether", spec := "fnExactIsTogether", inPlace := ["slices.overlaps[loop.example/g03000/impl.Ext]"], unfollowed := true, recurses := true, apart := false, narrowed := true }
def FnExactIsTogetherUptoSaid : Prop := fnExactIsTogetherUptoRow.holds Tryz.pinned (OpenSpec.upto fnExactIsTogetherSpec)

/-- 'laws.FnExactDialOf', WHERE WHAT IT READS IS OF BULK AT MOST 1048576: true; the input reads as it did. -/
def fnExactDialOfUptoRow : OpenClaim := { program := "ytdgpapmladligaagreat", sum := "14c50fb868721d013c01b96831af7cd813eef7dbd094debd8f69dd58ff373922", func := "loop.example/g03000/laws.FnExactDialOf", spec := "fnExactDialOf", inPlace := ["slices.overlaps[loop.example/g03000/impl.Ext]"], unfollowed := true, recurses := true, apart := false, narrowed := true }
def FnExactDialOfUptoSaid : Prop := fnExactDialOfUptoRow.holds Tryz.pinned (OpenSpec.upto fnExactDialOfSpec)

/-- 'laws.FnExactStepDial', WHERE WHAT IT READS IS OF BULK AT MOST 1048576: true; the input reads as it did. -/
def fnExactStepDialUptoRow : OpenClaim := { program := "ytdgpapmladligaagreat", sum := "14c50fb868721d013c01b96831af7cd813eef7dbd094debd8f69dd58ff373922", func := "loop.example/g03000/laws.FnExactStepDial", spec := "fnExactStepDial", inPlace := ["slices.overlaps[loop.example/g03000/impl.Ext]"], unfollowed := true, recurses := true, apart := false, narrowed := true }
def FnExactStepDialUptoSaid : Prop := fnExactStepDialUptoRow.holds Tryz.pinned (OpenSpec.upto fnExactStepDialSpec)

end Rows
end Go.Proofs.YtdgpapmladligaaGreat
