/- The law FnExactConsoleLine answers true for every input, over the tables and the two errors that its card lists. -/
import Derived.Test.YtogmkdgkgfhhoaaGreatDoorETieC
import Derived.Test.YtogmkdgkgfhhoaaGreatDoorEL
import Derived.Test.YtogmkdgkgfhhoaaGreatDoorERc
import Derived.Test.YtogmkdgkgfhhoaaGreatDoorERa
import Derived.Test.YtogmkdgkgfhhoaaGreatDoorERn
import Derived.Test.YtogmkdgkgfhhoaaGreatDoorCards
import Derived.WalkKit
import Derived.ProofKit
import Derived.OpenShut
import Derived.MakeChecks
import Derived.Stop.LaidErr
import Derived.Shelf.Vars
import Derived.Deep.DeepHandedRow
import Derived.Lib.LaidTab
namespace Go.Proofs.YtogmkdgkgfhhoaaGreatDoor
open Go.ChangeShapes Go.WideShapes Go.ChangeAt Go.RowKit Go.Eng
theorem said:Rows.FnExactConsoleLineSaid:=
 OpenClaim.holds_of_cond 6 Tryz.f6 rfl rfl rfl rfl rfl rfl rfl ⟨rfl,rfl,rfl,rfl,rfl⟩ rfl rfl rfl rfl rfl named Tryz.func6 closed
  (of_decide_eq_true (by kernel_rfl)) (by unfold Func.isWrapper;first | (rw[if_pos (by decide +kernel)];kernel_rfl) | (rw[if_neg (by decide +kernel)];exact⟨rfl,rfl⟩))
  (fun os started H enc _ F=>by rw[OpenClaim.pre_eq_preRow];exact lifted os started H enc F)
theorem proved:Rows.FnExactConsoleLineCardSaid:=
 Claim7.holds_tied_plain_at .later [] _ _ _ _ said (fun _ h=>by cases h) (by kernel_rfl) (fun _ h=>by cases h) AQJ rfl ⟨rfl,rfl⟩ (by kernel_rfl) rfl plain (AU6 _ AVu _ rfl)
#print axioms proved
end Go.Proofs.YtogmkdgkgfhhoaaGreatDoor
