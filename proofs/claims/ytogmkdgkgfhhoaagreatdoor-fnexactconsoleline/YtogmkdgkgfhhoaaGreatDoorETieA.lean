/- Own work: part 1 of the proof of FnExactConsoleLine. -/
import Derived.Test.YtogmkdgkgfhhoaaGreatDoorRows
import Derived.LaidByTextLater
import Derived.KernelRfl
set_option linter.unusedSimpArgs false
set_option linter.unusedVariables false
namespace Go.Proofs.YtogmkdgkgfhhoaaGreatDoor
open Go
set_option maxRecDepth 100000
abbrev tl:List (String×DataW Unit):=[("unicode/utf8.acceptRanges",Rows.laid_unicode_utf8_acceptRanges),("strconv.ErrSyntax",Rows.laid_strconv_ErrSyntax),("strconv.ErrRange",Rows.laid_strconv_ErrRange),("internal/strconv.uint64pow10",Rows.laid_internal_strconv_uint64pow10),("math/bits.deBruijn32tab",Rows.laid_math_bits_deBruijn32tab),("math/bits.deBruijn64tab",Rows.laid_math_bits_deBruijn64tab)]
theorem Asp:Tryz.prog.worded (varsWordLater true)=true:=by kernel_rfl
theorem AsC:Tryz.prog.worded (varsWordLater !true)=false:=by kernel_rfl
theorem Asq:Tryz.prog.worded rootWordLater=true:=by kernel_rfl
theorem Asr:tl.map (fun x=>Tryz.prog.kindOfLater x.1)=([.data,.sentinel,.sentinel,.data,.data,.data]:List LaidKind).map some:=by kernel_rfl
theorem AsA:(Tryz.prog.funcNamed "gosem.cut.vars").isSome=true:=by kernel_rfl
theorem Asy:varsNamedLaterB Tryz.prog (varsId Tryz.prog) tl=true:=by kernel_rfl
theorem AG0:Tryz.pinned.checked.prog.headLifts.contains "ownunsafe"=false:=by kernel_rfl
end Go.Proofs.YtogmkdgkgfhhoaaGreatDoor
