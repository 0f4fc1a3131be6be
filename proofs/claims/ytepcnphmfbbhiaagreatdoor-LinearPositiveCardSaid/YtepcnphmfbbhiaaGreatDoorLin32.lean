/- Part of the proof that all functions of the layer agree with the reference implementation. -/
import Derived.Test.YtepcnphmfbbhiaaGreatDoorLaGToLin33
import Derived.Test.YtepcnphmfbbhiaaGreatDoorEngH
set_option linter.all false
set_option linter.all false
namespace Go.Proofs.YtepcnphmfbbhiaaGreatDoor
open Go Go.Eng Go.RowKit
attribute [local irreducible] wpListIn Code.wpIn Oper.wpIn Exit.then Exit.inBlock Exit.noGoto
set_option maxHeartbeats 40000000
set_option maxRecDepth 100000 in
theorem zeroL_ok (w : World) :
    Calls Tryz.prog 27 #[] w (Ret w fun v w' => v = .agg #[S ((z0).1), S ((z0).2)]) := by
 refine f_in Tryz.func27 rfl ?_;refine go ?_;refine al inf36 (fun fi fg fc => ?_);have e8 := fg.2;refine go ?_;refine cl en43 (r13Zero_ok _) ?_;rintro fj fk fd rfl;have fc := be fd.2 fc;have e8 := xt e8 fd.2;refine SA fc (fun fl fe fh => ?_);have e8 := plw fe e8;have fm := psz fe;refine go ?_;refine f_out (v := .agg #[S ((z0).1), S ((z0).2)]) (res1  rfl ?_) e8 rfl;refine res_cellA (t := 0) (cs := [S ((z0).1), S ((z0).2)]) (b := w.heap.size) (o := 0) U36 rfl sz36 ?_ ?_;exact rfl;exact Blk.cells fh (i := 0) rfl
end Go.Proofs.YtepcnphmfbbhiaaGreatDoor
