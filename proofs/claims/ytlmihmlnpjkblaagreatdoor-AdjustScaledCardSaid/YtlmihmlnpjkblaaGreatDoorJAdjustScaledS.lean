/- Part of the proof of a statement about an adjustment. -/
import Derived.Test.YtlmihmlnpjkblaaGreatDoorRows
import Derived.KernelRfl
import Derived.ProofKit
import Derived.SizedLaws
set_option linter.all false
namespace Go.Proofs.YtlmihmlnpjkblaaGreatDoor
open Go
theorem ZU {a b:Bool}(h:a=true)(k:b=true):(a&&b)=true:=by rw[h,k];rfl
namespace AdjustScaled
set_option maxHeartbeats 20000000 in
theorem jf:joinedFacts Tryz.pinned.checked.prog 3 Tryz.f3 Rows.adjustScaledSpec Rows.adjustScaledRow=true:=by
 unfold joinedFacts
 repeat' with_reducible refine ZU ?_ ?_
 all_goals as_aux_lemma=>kernel_rfl
end AdjustScaled
end Go.Proofs.YtlmihmlnpjkblaaGreatDoor
