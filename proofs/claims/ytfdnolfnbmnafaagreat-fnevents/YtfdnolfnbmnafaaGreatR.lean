/- The law FnEvents answers true for every input; no condition. -/
import Derived.Test.YtfdnolfnbmnafaaGreatL
import Derived.Test.YtfdnolfnbmnafaaGreatRows
import Derived.WalkKit
import Derived.ProofKit
import Derived.OpenShut
import Derived.JoinedOf
namespace Go.Proofs.YtfdnolfnbmnafaaGreat
open Go.ChangeShapes Go.WideShapes Go.ChangeAt Go.RowKit Go.Eng
theorem own:ownKnob Tryz.prog.godebug=none:=by kernel_rfl
set_option maxRecDepth 100000 in
theorem lifted (os:Os) (started:os.Started) (H:Type) (enc:TypeId×Value→H):
 ReturnsInHanded {} Tryz.checked os 4 .any (Rows.fnEventsSpec.pre6 enc Tryz.prog Tryz.f4 Rows.fnEventsRow.domain false) (Rows.fnEventsSpec.post enc Tryz.prog Tryz.f4 false true false false):=by
 refine returnsInHanded_of_change (C:=Tryz.checked) own started (by kernel_rfl) Tryz.func4
  (ChangeSpec.witness6 (enc:=enc) (C:=Tryz.checked) false ⟨#[],#[.slice none 0 0],[]⟩ 8 (by kernel_rfl) (by kernel_rfl) (by kernel_rfl) (by kernel_rfl)) ?_
 intro W base args ds gs before hval hW _ _
 exact ATO (Ah:=T.Ah) (g:=532) (ys:=[.sl (.int .u8)]) (tb:=4) rfl rfl T.den (by kernel_rfl) (by kernel_rfl) Tryz.underlying4 rfl (fun ds h=>match ds,h with | [_],_=>rfl) hval hW
set_option maxHeartbeats 4000000 in
theorem closed:joinedFacts Tryz.checked.prog 4 Tryz.f4 Rows.fnEventsSpec Rows.fnEventsRow=true:=by
 unfold joinedFacts
 repeat' (with_reducible refine Bool.and_eq_true_iff.2 ⟨?_,?_⟩)
 all_goals decide +kernel
theorem proved:Rows.FnEventsSaid:=
 OpenClaim.holds_of_wide 4 Tryz.f4 rfl rfl rfl rfl rfl rfl rfl ⟨rfl,rfl,rfl,rfl,rfl⟩ rfl rfl rfl rfl rfl (by kernel_rfl) Tryz.func4 closed
  (of_decide_eq_true (by kernel_rfl)) (by unfold Func.isWrapper;first | (rw[if_pos (by decide +kernel)];kernel_rfl) | (rw[if_neg (by decide +kernel)];exact⟨rfl,rfl⟩))
  (fun os started H enc _=>lifted os started H enc)
#print axioms proved
end Go.Proofs.YtfdnolfnbmnafaaGreat
