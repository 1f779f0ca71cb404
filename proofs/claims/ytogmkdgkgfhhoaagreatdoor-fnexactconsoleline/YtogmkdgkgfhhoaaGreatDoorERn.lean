/- Own work: part 31 of the proof of FnExactConsoleLine. -/
import Derived.Test.YtogmkdgkgfhhoaaGreatDoorRows
import GoSem.ClaimGoes
import Derived.KernelRfl
set_option linter.unusedSimpArgs false
set_option linter.unusedVariables false
namespace Go.Proofs.YtogmkdgkgfhhoaaGreatDoor
open Go
theorem AU6 (P:Program) (h:P.funcs.toList.all (fun fn=> !fn.goes)=true) (c:OpenClaim) (hs:c.start= .entering):false=c.goesBy P:=by
 have h1:∀fn,fn∈P.funcs->fn.goes=false:=fun fn hf=>by
  have:=List.all_eq_true.1 h fn (Array.mem_toList_iff.2 hf)
  simpa using this
 have h2:∀g:FuncId,(P.funcs[g]?).any Func.goes=false:=fun g=>by
  cases hg:P.funcs[g]? with
  | none=>rfl
  | some fn=>exact h1 fn (Array.mem_of_getElem? hg)
 have h4:P.funcs.any Func.goes=false:=by
  rw[Array.any_eq_false]
  intro i hi
  simp[h1 _ (Array.getElem_mem hi)]
 have h3:∀f,P.goes f=false:=fun f=>by
  unfold Program.goes
  simp[h2,h4]
 unfold OpenClaim.goesBy Program.goesAt Program.goesFrom
 rw[hs]
 cases P.funcNamed c.func<;>simp[h3]
theorem AVu:Tryz.pinned.checked.prog.funcs.toList.all (fun fn=> !fn.goes)=true:=by kernel_rfl
theorem named:Tryz.prog.funcNamed "loop.example/g03000/laws.FnExactConsoleLine"=some 6:=by kernel_rfl
end Go.Proofs.YtogmkdgkgfhhoaaGreatDoor
