/- Part of the proof of a statement about an adjustment. -/
import Derived.Test.YtlmihmlnpjkblaaGreatDoorRows
import Derived.KernelRfl
import Derived.ProofKit
import Derived.SizedLaws
set_option linter.all false
namespace Go.Proofs.YtlmihmlnpjkblaaGreatDoor
open Go
theorem ZH {a b:Bool}(h:a=true)(k:b=true):(a&&b)=true:=by rw[h,k];rfl
namespace AdjustExchanged
set_option maxHeartbeats 20000000 in
theorem jf:joinedFacts Tryz.pinned.checked.prog 4 Tryz.f4 Rows.adjustExchangedSpec Rows.adjustExchangedRow=true:=by
 unfold joinedFacts
 repeat' with_reducible refine ZH ?_ ?_
 all_goals as_aux_lemma=>kernel_rfl
end AdjustExchanged
end Go.Proofs.YtlmihmlnpjkblaaGreatDoor
