/- Own work: part 1 of the proof of FnViews. -/
import Derived.Test.YtogmkdgkgfhhoaaGreatDoorRows
import Derived.LaidByTextLater
import Derived.KernelRfl
set_option linter.unusedSimpArgs false
set_option linter.unusedVariables false
namespace Go.Proofs.YtogmkdgkgfhhoaaGreatDoor
open Go
set_option maxRecDepth 100000
abbrev three:List (String×DataW Unit):=[("internal/strconv.uint64pow10",Rows.laid_internal_strconv_uint64pow10),("math/bits.deBruijn32tab",Rows.laid_math_bits_deBruijn32tab),("math/bits.deBruijn64tab",Rows.laid_math_bits_deBruijn64tab)]
theorem Asp:Tryz.prog.worded (varsWordLater true)=true:=by kernel_rfl
theorem AsC:Tryz.prog.worded (varsWordLater !true)=false:=by kernel_rfl
theorem Asq:Tryz.prog.worded rootWordLater=true:=by kernel_rfl
theorem Asr:three.map (fun x=>Tryz.prog.kindOfLater x.1)=[.data,.data,.data].map some:=by kernel_rfl
theorem AsA:(Tryz.prog.funcNamed "gosem.cut.vars").isSome=true:=by kernel_rfl
theorem Asy:varsNamedLaterB Tryz.prog (varsId Tryz.prog) three=true:=by kernel_rfl
theorem Arx:Tryz.pinned.checked.prog.headLifts.contains "ownunsafe"=false:=by kernel_rfl
end Go.Proofs.YtogmkdgkgfhhoaaGreatDoor
