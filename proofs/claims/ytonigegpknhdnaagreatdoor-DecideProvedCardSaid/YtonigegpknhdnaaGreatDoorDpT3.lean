/- Part of the proof of a statement about decisions. -/
import Derived.Test.YtonigegpknhdnaaGreatDoorDcAToDpB
set_option linter.all false
namespace Go.Proofs.YtonigegpknhdnaaGreatDoor
open Go Go.Eng Go.RowKit
theorem dp12_0:rowK tripK 12 0 529=true:=by decide +kernel
theorem dp12_1:rowK tripK 12 529 486=true:=by decide +kernel
theorem dp12_2:rowK tripK 12 1015 576=true:=by decide +kernel
theorem dp12_3:rowK tripK 12 1591 328=true:=by decide +kernel
theorem dp12:Rng tripK 12 1919:=(((Rng.zero.next dp12_0).next dp12_1).next dp12_2).next dp12_3
theorem dp13_0:rowK tripK 13 0 148=true:=by decide +kernel
theorem dp13_1:rowK tripK 13 148 146=true:=by decide +kernel
theorem dp13_2:rowK tripK 13 294 131=true:=by decide +kernel
theorem dp13_3:rowK tripK 13 425 125=true:=by decide +kernel
theorem dp13_4:rowK tripK 13 550 115=true:=by decide +kernel
theorem dp13_5:rowK tripK 13 665 103=true:=by decide +kernel
theorem dp13_6:rowK tripK 13 768 100=true:=by decide +kernel
theorem dp13_7:rowK tripK 13 868 98=true:=by decide +kernel
theorem dp13_8:rowK tripK 13 966 92=true:=by decide +kernel
theorem dp13_9:rowK tripK 13 1058 97=true:=by decide +kernel
theorem dp13_10:rowK tripK 13 1155 99=true:=by decide +kernel
theorem dp13_11:rowK tripK 13 1254 99=true:=by decide +kernel
theorem dp13_12:rowK tripK 13 1353 87=true:=by decide +kernel
theorem dp13_13:rowK tripK 13 1440 90=true:=by decide +kernel
theorem dp13_14:rowK tripK 13 1530 102=true:=by decide +kernel
theorem dp13_15:rowK tripK 13 1632 118=true:=by decide +kernel
theorem dp13_16:rowK tripK 13 1750 250=true:=by decide +kernel
theorem dp13:Rng tripK 13 2000:=((((((((((((((((Rng.zero.next dp13_0).next dp13_1).next dp13_2).next dp13_3).next dp13_4).next dp13_5).next dp13_6).next dp13_7).next dp13_8).next dp13_9).next dp13_10).next dp13_11).next dp13_12).next dp13_13).next dp13_14).next dp13_15).next dp13_16
theorem dp14_0:rowK tripK 14 0 407=true:=by decide +kernel
theorem dp14_1:rowK tripK 14 407 358=true:=by decide +kernel
theorem dp14_2:rowK tripK 14 765 366=true:=by decide +kernel
theorem dp14_3:rowK tripK 14 1131 460=true:=by decide +kernel
theorem dp14_4:rowK tripK 14 1591 409=true:=by decide +kernel
theorem dp14:Rng tripK 14 2000:=((((Rng.zero.next dp14_0).next dp14_1).next dp14_2).next dp14_3).next dp14_4
end Go.Proofs.YtonigegpknhdnaaGreatDoor
