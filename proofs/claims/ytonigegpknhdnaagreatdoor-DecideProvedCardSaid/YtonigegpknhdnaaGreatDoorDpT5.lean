/- Part of the proof of a statement about decisions. -/
import Derived.Test.YtonigegpknhdnaaGreatDoorDcAToDpB
set_option linter.all false
namespace Go.Proofs.YtonigegpknhdnaaGreatDoor
open Go Go.Eng Go.RowKit
theorem dp18_0:rowK tripK 18 0 611=true:=by decide +kernel
theorem dp18_1:rowK tripK 18 611 684=true:=by decide +kernel
theorem dp18_2:rowK tripK 18 1295 705=true:=by decide +kernel
theorem dp18:Rng tripK 18 2000:=((Rng.zero.next dp18_0).next dp18_1).next dp18_2
theorem dp19_0:rowK tripK 19 0 154=true:=by decide +kernel
theorem dp19_1:rowK tripK 19 154 161=true:=by decide +kernel
theorem dp19_2:rowK tripK 19 315 150=true:=by decide +kernel
theorem dp19_3:rowK tripK 19 465 146=true:=by decide +kernel
theorem dp19_4:rowK tripK 19 611 133=true:=by decide +kernel
theorem dp19_5:rowK tripK 19 744 136=true:=by decide +kernel
theorem dp19_6:rowK tripK 19 880 128=true:=by decide +kernel
theorem dp19_7:rowK tripK 19 1008 114=true:=by decide +kernel
theorem dp19_8:rowK tripK 19 1122 120=true:=by decide +kernel
theorem dp19_9:rowK tripK 19 1242 122=true:=by decide +kernel
theorem dp19_10:rowK tripK 19 1364 124=true:=by decide +kernel
theorem dp19_11:rowK tripK 19 1488 132=true:=by decide +kernel
theorem dp19_12:rowK tripK 19 1620 180=true:=by decide +kernel
theorem dp19_13:rowK tripK 19 1800 200=true:=by decide +kernel
theorem dp19:Rng tripK 19 2000:=(((((((((((((Rng.zero.next dp19_0).next dp19_1).next dp19_2).next dp19_3).next dp19_4).next dp19_5).next dp19_6).next dp19_7).next dp19_8).next dp19_9).next dp19_10).next dp19_11).next dp19_12).next dp19_13
theorem dp20_0:rowK tripK 20 0 989=true:=by decide +kernel
theorem dp20_1:rowK tripK 20 989 1011=true:=by decide +kernel
theorem dp20:Rng tripK 20 2000:=(Rng.zero.next dp20_0).next dp20_1
theorem dp21_0:rowK tripK 21 0 340=true:=by decide +kernel
theorem dp21_1:rowK tripK 21 340 336=true:=by decide +kernel
theorem dp21_2:rowK tripK 21 676 310=true:=by decide +kernel
theorem dp21_3:rowK tripK 21 986 294=true:=by decide +kernel
theorem dp21_4:rowK tripK 21 1280 354=true:=by decide +kernel
theorem dp21_5:rowK tripK 21 1634 366=true:=by decide +kernel
theorem dp21:Rng tripK 21 2000:=(((((Rng.zero.next dp21_0).next dp21_1).next dp21_2).next dp21_3).next dp21_4).next dp21_5
end Go.Proofs.YtonigegpknhdnaaGreatDoor
