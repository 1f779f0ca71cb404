/- Own work: part 2 of the proof of FnExactConsoleLine. -/
import Derived.Test.YtogmkdgkgfhhoaaGreatDoorETieA
import Derived.LaidOnce
import Derived.SevenTiedAt
set_option linter.unusedSimpArgs false
set_option linter.unusedVariables false
namespace Go.Proofs.YtogmkdgkgfhhoaaGreatDoor
open Go
set_option maxRecDepth 100000
theorem AsD:∀os tape,doorLeaves Tryz.prog 400 8 257 tl os tape=some (tl.filter fun x=>x.2.handleName?.isNone,(funcsListed tl).map (·.2.funcsOut)):=fun _ _=>by kernel_rfl
theorem AqD:Tryz.prog.laidByTextLater tl [.data,.sentinel,.sentinel,.data,.data,.data] true:=Program.laidByTextLater_by_one 400 8 257 Asp AsC Asq Asr AsA Asy AsD
end Go.Proofs.YtogmkdgkgfhhoaaGreatDoor
