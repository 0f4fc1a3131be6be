/- Part of the proof of a statement about decisions. -/
import Derived.Test.YtonigegpknhdnaaGreatDoorDcAToDpB
set_option linter.all false
namespace Go.Proofs.YtonigegpknhdnaaGreatDoor
open Go Go.Eng Go.RowKit
theorem dp22_0:rowK tripK 22 0 437=true:=by decide +kernel
theorem dp22_1:rowK tripK 22 437 414=true:=by decide +kernel
theorem dp22_2:rowK tripK 22 851 472=true:=by decide +kernel
theorem dp22_3:rowK tripK 22 1323 677=true:=by decide +kernel
theorem dp22:Rng tripK 22 2000:=(((Rng.zero.next dp22_0).next dp22_1).next dp22_2).next dp22_3
theorem dp23_0:rowK tripK 23 0 155=true:=by decide +kernel
theorem dp23_1:rowK tripK 23 155 173=true:=by decide +kernel
theorem dp23_2:rowK tripK 23 328 162=true:=by decide +kernel
theorem dp23_3:rowK tripK 23 490 150=true:=by decide +kernel
theorem dp23_4:rowK tripK 23 640 143=true:=by decide +kernel
theorem dp23_5:rowK tripK 23 783 148=true:=by decide +kernel
theorem dp23_6:rowK tripK 23 931 144=true:=by decide +kernel
theorem dp23_7:rowK tripK 23 1075 143=true:=by decide +kernel
theorem dp23_8:rowK tripK 23 1218 135=true:=by decide +kernel
theorem dp23_9:rowK tripK 23 1353 143=true:=by decide +kernel
theorem dp23_10:rowK tripK 23 1496 144=true:=by decide +kernel
theorem dp23_11:rowK tripK 23 1640 260=true:=by decide +kernel
theorem dp23_12:rowK tripK 23 1900 100=true:=by decide +kernel
theorem dp23:Rng tripK 23 2000:=((((((((((((Rng.zero.next dp23_0).next dp23_1).next dp23_2).next dp23_3).next dp23_4).next dp23_5).next dp23_6).next dp23_7).next dp23_8).next dp23_9).next dp23_10).next dp23_11).next dp23_12
theorem dp24_0:rowK tripK 24 0 697=true:=by decide +kernel
theorem dp24_1:rowK tripK 24 697 894=true:=by decide +kernel
theorem dp24_2:rowK tripK 24 1591 409=true:=by decide +kernel
theorem dp24:Rng tripK 24 2000:=((Rng.zero.next dp24_0).next dp24_1).next dp24_2
theorem dp25_0:rowK tripK 25 0 432=true:=by decide +kernel
theorem dp25_1:rowK tripK 25 432 405=true:=by decide +kernel
theorem dp25_2:rowK tripK 25 837 387=true:=by decide +kernel
theorem dp25_3:rowK tripK 25 1224 414=true:=by decide +kernel
theorem dp25_4:rowK tripK 25 1638 362=true:=by decide +kernel
theorem dp25:Rng tripK 25 2000:=((((Rng.zero.next dp25_0).next dp25_1).next dp25_2).next dp25_3).next dp25_4
theorem dp26_0:rowK tripK 26 0 441=true:=by decide +kernel
theorem dp26_1:rowK tripK 26 441 462=true:=by decide +kernel
theorem dp26_2:rowK tripK 26 903 532=true:=by decide +kernel
theorem dp26_3:rowK tripK 26 1435 565=true:=by decide +kernel
theorem dp26:Rng tripK 26 2000:=(((Rng.zero.next dp26_0).next dp26_1).next dp26_2).next dp26_3
end Go.Proofs.YtonigegpknhdnaaGreatDoor
