/- Part of the proof of a statement about an adjustment. -/
import Derived.Test.YtlmihmlnpjkblaaGreatDoorRows
import Derived.KernelRfl
import Derived.ProofKit
import Derived.SizedLaws
set_option linter.all false
namespace Go.Proofs.YtlmihmlnpjkblaaGreatDoor
open Go
theorem ZM {a b:Bool}(h:a=true)(k:b=true):(a&&b)=true:=by rw[h,k];rfl
namespace AdjustExact
set_option maxHeartbeats 20000000 in
theorem jf:joinedFacts Tryz.pinned.checked.prog 8 Tryz.f8 Rows.adjustExactSpec Rows.adjustExactRow=true:=by
 unfold joinedFacts
 repeat' with_reducible refine ZM ?_ ?_
 all_goals as_aux_lemma=>kernel_rfl
end AdjustExact
end Go.Proofs.YtlmihmlnpjkblaaGreatDoor
