/- The law FnExactRunEvents answers true for every input; no condition. -/
import Derived.Test.YtfdnolfnbmnafaaGreatL
import Derived.Test.YtfdnolfnbmnafaaGreatRows
import Derived.WalkKit
import Derived.ProofKit
import Derived.OpenShut
import Derived.JoinedOf
namespace Go.Proofs.YtfdnolfnbmnafaaGreat
open Go.ChangeShapes Go.WideShapes Go.ChangeAt Go.RowKit Go.Eng
theorem own:ownKnob Tryz.prog.godebug=none:=by kernel_rfl
set_option maxRecDepth 100000 in
theorem lifted (os:Os) (started:os.Started) (H:Type) (enc:TypeId×Value→H):
 ReturnsInHanded {} Tryz.checked os 5 .any (Rows.fnExactRunEventsSpec.pre6 enc Tryz.prog Tryz.f5 Rows.fnExactRunEventsRow.domain false) (Rows.fnExactRunEventsSpec.post enc Tryz.prog Tryz.f5 false true false false):=by
 refine returnsInHanded_of_change (C:=Tryz.checked) own started (by kernel_rfl) Tryz.func5
  (ChangeSpec.witness6 (enc:=enc) (C:=Tryz.checked) false ⟨#[],#[.agg #[.slice none 0 0,.slice none 0 0,.int .i64 0,.slice none 0 0,.int .i64 0,.slice none 0 0,.int .i64 0,.bool false,.int .i64 0,.int .i64 0,.slice none 0 0,.slice none 0 0,.int .i64 0,.int .i64 0,.int .i64 0],.slice none 0 0],[]⟩ 8 (by kernel_rfl) (by kernel_rfl) (by kernel_rfl) (by kernel_rfl)) ?_
 intro W base args ds gs before hval hW _ _
 exact Axb (Ah:=T.Ah) (G:=T.G0) (g:=544) (ys:=[T.Anv,.sl T.AfN]) (tb:=4) rfl T.den (fun _ h=>h.elim) (by kernel_rfl) (by kernel_rfl) Tryz.underlying4 rfl (fun ds h=>match ds,h with | [_,_],_=>rfl) hval hW
set_option maxHeartbeats 4000000 in
theorem closed:joinedFacts Tryz.checked.prog 5 Tryz.f5 Rows.fnExactRunEventsSpec Rows.fnExactRunEventsRow=true:=by
 unfold joinedFacts
 repeat' (with_reducible refine Bool.and_eq_true_iff.2 ⟨?_,?_⟩)
 all_goals decide +kernel
theorem proved:Rows.FnExactRunEventsSaid:=
 OpenClaim.holds_of_wide 5 Tryz.f5 rfl rfl rfl rfl rfl rfl rfl ⟨rfl,rfl,rfl,rfl,rfl⟩ rfl rfl rfl rfl rfl (by kernel_rfl) Tryz.func5 closed
  (of_decide_eq_true (by kernel_rfl)) (by unfold Func.isWrapper;first | (rw[if_pos (by decide +kernel)];kernel_rfl) | (rw[if_neg (by decide +kernel)];exact⟨rfl,rfl⟩))
  (fun os started H enc _=>lifted os started H enc)
#print axioms proved
end Go.Proofs.YtfdnolfnbmnafaaGreat
