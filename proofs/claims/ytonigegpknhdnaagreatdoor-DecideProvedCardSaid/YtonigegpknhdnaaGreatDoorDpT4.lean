/- Part of the proof of a statement about decisions. -/
import Derived.Test.YtonigegpknhdnaaGreatDoorDcAToDpB
set_option linter.all false
namespace Go.Proofs.YtonigegpknhdnaaGreatDoor
open Go Go.Eng Go.RowKit
theorem dp15_0:rowK tripK 15 0 338=true:=by decide +kernel
theorem dp15_1:rowK tripK 15 338 299=true:=by decide +kernel
theorem dp15_2:rowK tripK 15 637 262=true:=by decide +kernel
theorem dp15_3:rowK tripK 15 899 257=true:=by decide +kernel
theorem dp15_4:rowK tripK 15 1156 252=true:=by decide +kernel
theorem dp15_5:rowK tripK 15 1408 378=true:=by decide +kernel
theorem dp15_6:rowK tripK 15 1786 214=true:=by decide +kernel
theorem dp15:Rng tripK 15 2000:=((((((Rng.zero.next dp15_0).next dp15_1).next dp15_2).next dp15_3).next dp15_4).next dp15_5).next dp15_6
theorem dp16_0:rowK tripK 16 0 627=true:=by decide +kernel
theorem dp16_1:rowK tripK 16 627 594=true:=by decide +kernel
theorem dp16_2:rowK tripK 16 1221 779=true:=by decide +kernel
theorem dp16:Rng tripK 16 2000:=((Rng.zero.next dp16_0).next dp16_1).next dp16_2
theorem dp17_0:rowK tripK 17 0 152=true:=by decide +kernel
theorem dp17_1:rowK tripK 17 152 156=true:=by decide +kernel
theorem dp17_2:rowK tripK 17 308 147=true:=by decide +kernel
theorem dp17_3:rowK tripK 17 455 134=true:=by decide +kernel
theorem dp17_4:rowK tripK 17 589 133=true:=by decide +kernel
theorem dp17_5:rowK tripK 17 722 119=true:=by decide +kernel
theorem dp17_6:rowK tripK 17 841 120=true:=by decide +kernel
theorem dp17_7:rowK tripK 17 961 112=true:=by decide +kernel
theorem dp17_8:rowK tripK 17 1073 105=true:=by decide +kernel
theorem dp17_9:rowK tripK 17 1178 117=true:=by decide +kernel
theorem dp17_10:rowK tripK 17 1295 111=true:=by decide +kernel
theorem dp17_11:rowK tripK 17 1406 114=true:=by decide +kernel
theorem dp17_12:rowK tripK 17 1520 130=true:=by decide +kernel
theorem dp17_13:rowK tripK 17 1650 163=true:=by decide +kernel
theorem dp17_14:rowK tripK 17 1813 187=true:=by decide +kernel
theorem dp17:Rng tripK 17 2000:=((((((((((((((Rng.zero.next dp17_0).next dp17_1).next dp17_2).next dp17_3).next dp17_4).next dp17_5).next dp17_6).next dp17_7).next dp17_8).next dp17_9).next dp17_10).next dp17_11).next dp17_12).next dp17_13).next dp17_14
end Go.Proofs.YtonigegpknhdnaaGreatDoor
