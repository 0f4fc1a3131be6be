/- Part of the proof of a statement about decisions. -/
import Derived.Test.YtonigegpknhdnaaGreatDoorDcAToDpB
set_option linter.all false
namespace Go.Proofs.YtonigegpknhdnaaGreatDoor
open Go Go.Eng Go.RowKit
theorem dp27_0:rowK tripK 27 0 266=true:=by decide +kernel
theorem dp27_1:rowK tripK 27 266 285=true:=by decide +kernel
theorem dp27_2:rowK tripK 27 551 281=true:=by decide +kernel
theorem dp27_3:rowK tripK 27 832 256=true:=by decide +kernel
theorem dp27_4:rowK tripK 27 1088 281=true:=by decide +kernel
theorem dp27_5:rowK tripK 27 1369 331=true:=by decide +kernel
theorem dp27_6:rowK tripK 27 1700 300=true:=by decide +kernel
theorem dp27:Rng tripK 27 2000:=((((((Rng.zero.next dp27_0).next dp27_1).next dp27_2).next dp27_3).next dp27_4).next dp27_5).next dp27_6
theorem dp28_0:rowK tripK 28 0 513=true:=by decide +kernel
theorem dp28_1:rowK tripK 28 513 568=true:=by decide +kernel
theorem dp28_2:rowK tripK 28 1081 919=true:=by decide +kernel
theorem dp28:Rng tripK 28 2000:=((Rng.zero.next dp28_0).next dp28_1).next dp28_2
theorem dp29_0:rowK tripK 29 0 160=true:=by decide +kernel
theorem dp29_1:rowK tripK 29 160 180=true:=by decide +kernel
theorem dp29_2:rowK tripK 29 340 172=true:=by decide +kernel
theorem dp29_3:rowK tripK 29 512 170=true:=by decide +kernel
theorem dp29_4:rowK tripK 29 682 164=true:=by decide +kernel
theorem dp29_5:rowK tripK 29 846 166=true:=by decide +kernel
theorem dp29_6:rowK tripK 29 1012 158=true:=by decide +kernel
theorem dp29_7:rowK tripK 29 1170 163=true:=by decide +kernel
theorem dp29_8:rowK tripK 29 1333 179=true:=by decide +kernel
theorem dp29_9:rowK tripK 29 1512 165=true:=by decide +kernel
theorem dp29_10:rowK tripK 29 1677 323=true:=by decide +kernel
theorem dp29:Rng tripK 29 2000:=((((((((((Rng.zero.next dp29_0).next dp29_1).next dp29_2).next dp29_3).next dp29_4).next dp29_5).next dp29_6).next dp29_7).next dp29_8).next dp29_9).next dp29_10
theorem dp30_0:rowK tripK 30 0 1189=true:=by decide +kernel
theorem dp30_1:rowK tripK 30 1189 811=true:=by decide +kernel
theorem dp30:Rng tripK 30 2000:=(Rng.zero.next dp30_0).next dp30_1
end Go.Proofs.YtonigegpknhdnaaGreatDoor
