/- Part of the proof of a statement about decisions. -/
import Derived.Test.YtonigegpknhdnaaGreatDoorDcAToDpB
set_option linter.all false
namespace Go.Proofs.YtonigegpknhdnaaGreatDoor
open Go Go.Eng Go.RowKit
theorem dp8_0:rowK tripK 8 0 465=true:=by decide +kernel
theorem dp8_1:rowK tripK 8 465 354=true:=by decide +kernel
theorem dp8_2:rowK tripK 8 819 336=true:=by decide +kernel
theorem dp8_3:rowK tripK 8 1155 124=true:=by decide +kernel
theorem dp8:Rng tripK 8 1279:=(((Rng.zero.next dp8_0).next dp8_1).next dp8_2).next dp8_3
theorem dp9_0:rowK tripK 9 0 203=true:=by decide +kernel
theorem dp9_1:rowK tripK 9 203 171=true:=by decide +kernel
theorem dp9_2:rowK tripK 9 374 153=true:=by decide +kernel
theorem dp9_3:rowK tripK 9 527 131=true:=by decide +kernel
theorem dp9_4:rowK tripK 9 658 141=true:=by decide +kernel
theorem dp9_5:rowK tripK 9 799 121=true:=by decide +kernel
theorem dp9_6:rowK tripK 9 920 114=true:=by decide +kernel
theorem dp9_7:rowK tripK 9 1034 114=true:=by decide +kernel
theorem dp9_8:rowK tripK 9 1148 123=true:=by decide +kernel
theorem dp9_9:rowK tripK 9 1271 101=true:=by decide +kernel
theorem dp9_10:rowK tripK 9 1372 67=true:=by decide +kernel
theorem dp9:Rng tripK 9 1439:=((((((((((Rng.zero.next dp9_0).next dp9_1).next dp9_2).next dp9_3).next dp9_4).next dp9_5).next dp9_6).next dp9_7).next dp9_8).next dp9_9).next dp9_10
theorem dp10_0:rowK tripK 10 0 703=true:=by decide +kernel
theorem dp10_1:rowK tripK 10 703 630=true:=by decide +kernel
theorem dp10_2:rowK tripK 10 1333 266=true:=by decide +kernel
theorem dp10:Rng tripK 10 1599:=((Rng.zero.next dp10_0).next dp10_1).next dp10_2
theorem dp11_0:rowK tripK 11 0 145=true:=by decide +kernel
theorem dp11_1:rowK tripK 11 145 140=true:=by decide +kernel
theorem dp11_2:rowK tripK 11 285 121=true:=by decide +kernel
theorem dp11_3:rowK tripK 11 406 114=true:=by decide +kernel
theorem dp11_4:rowK tripK 11 520 104=true:=by decide +kernel
theorem dp11_5:rowK tripK 11 624 98=true:=by decide +kernel
theorem dp11_6:rowK tripK 11 722 90=true:=by decide +kernel
theorem dp11_7:rowK tripK 11 812 88=true:=by decide +kernel
theorem dp11_8:rowK tripK 11 900 89=true:=by decide +kernel
theorem dp11_9:rowK tripK 11 989 91=true:=by decide +kernel
theorem dp11_10:rowK tripK 11 1080 80=true:=by decide +kernel
theorem dp11_11:rowK tripK 11 1160 87=true:=by decide +kernel
theorem dp11_12:rowK tripK 11 1247 83=true:=by decide +kernel
theorem dp11_13:rowK tripK 11 1330 80=true:=by decide +kernel
theorem dp11_14:rowK tripK 11 1410 95=true:=by decide +kernel
theorem dp11_15:rowK tripK 11 1505 93=true:=by decide +kernel
theorem dp11_16:rowK tripK 11 1598 104=true:=by decide +kernel
theorem dp11_17:rowK tripK 11 1702 57=true:=by decide +kernel
theorem dp11:Rng tripK 11 1759:=(((((((((((((((((Rng.zero.next dp11_0).next dp11_1).next dp11_2).next dp11_3).next dp11_4).next dp11_5).next dp11_6).next dp11_7).next dp11_8).next dp11_9).next dp11_10).next dp11_11).next dp11_12).next dp11_13).next dp11_14).next dp11_15).next dp11_16).next dp11_17
end Go.Proofs.YtonigegpknhdnaaGreatDoor
