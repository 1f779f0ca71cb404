/- Own work: part 2 of the proof of FnViews. -/
import Derived.Test.YtogmkdgkgfhhoaaGreatDoorVTieA
import Derived.LaidOnce
import Derived.SevenTiedAt
set_option linter.unusedSimpArgs false
set_option linter.unusedVariables false
namespace Go.Proofs.YtogmkdgkgfhhoaaGreatDoor
open Go
set_option maxRecDepth 100000
theorem AsD:∀os tape,doorLeaves Tryz.prog 400 8 257 three os tape=some (three.filter fun x=>x.2.handleName?.isNone,(funcsListed three).map (·.2.funcsOut)):=fun _ _=>by kernel_rfl
theorem AqD:Tryz.prog.laidByTextLater three [.data,.data,.data] true:=Program.laidByTextLater_by_one 400 8 257 Asp AsC Asq Asr AsA Asy AsD
theorem AqP:Rows.fnViewsRow.laidByTextAt .later Tryz.pinned [.data,.data,.data] true:=OpenClaim.laidByTextAt_later rfl rfl AqD Arx
end Go.Proofs.YtogmkdgkgfhhoaaGreatDoor
