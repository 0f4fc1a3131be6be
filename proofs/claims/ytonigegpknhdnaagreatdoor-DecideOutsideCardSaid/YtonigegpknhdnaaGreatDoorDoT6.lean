/- Part of the proof of a statement about decisions. -/
import Derived.Test.YtonigegpknhdnaaGreatDoorDoK
set_option linter.all false
namespace Go.Proofs.YtonigegpknhdnaaGreatDoor
open Go Go.Eng Go.RowKit
theorem do23_1182 : rowO 23 1182 34 = true:=by decide +kernel
theorem do23_1216 : rowO 23 1216 34 = true:=by decide +kernel
theorem do23_1250 : rowO 23 1250 32 = true:=by decide +kernel
theorem do23_1282 : rowO 23 1282 33 = true:=by decide +kernel
theorem do23_1315 : rowO 23 1315 31 = true:=by decide +kernel
theorem do23_1346 : rowO 23 1346 30 = true:=by decide +kernel
theorem do23_1376 : rowO 23 1376 31 = true:=by decide +kernel
theorem do23_1407 : rowO 23 1407 29 = true:=by decide +kernel
theorem do23_1436 : rowO 23 1436 29 = true:=by decide +kernel
theorem do23_1465 : rowO 23 1465 28 = true:=by decide +kernel
theorem do23_1493 : rowO 23 1493 29 = true:=by decide +kernel
theorem do23_1522 : rowO 23 1522 28 = true:=by decide +kernel
theorem do23_1550 : rowO 23 1550 27 = true:=by decide +kernel
theorem do23_1577 : rowO 23 1577 27 = true:=by decide +kernel
theorem do23_1604 : rowO 23 1604 26 = true:=by decide +kernel
theorem do23_1630 : rowO 23 1630 27 = true:=by decide +kernel
theorem do23_1657 : rowO 23 1657 26 = true:=by decide +kernel
theorem do23_1683 : rowO 23 1683 25 = true:=by decide +kernel
theorem do23_1708 : rowO 23 1708 25 = true:=by decide +kernel
theorem do23_1733 : rowO 23 1733 25 = true:=by decide +kernel
theorem do23_1758 : rowO 23 1758 24 = true:=by decide +kernel
theorem do23_1782 : rowO 23 1782 24 = true:=by decide +kernel
theorem do23_1806 : rowO 23 1806 24 = true:=by decide +kernel
theorem do23_1830 : rowO 23 1830 9 = true:=by decide +kernel
theorem do27_0 : rowO 27 0 215 = true:=by decide +kernel
theorem do27_215 : rowO 27 215 146 = true:=by decide +kernel
theorem do27_361 : rowO 27 361 118 = true:=by decide +kernel
theorem do27_479 : rowO 27 479 102 = true:=by decide +kernel
theorem do27_581 : rowO 27 581 92 = true:=by decide +kernel
theorem do27_673 : rowO 27 673 82 = true:=by decide +kernel
theorem do27_755 : rowO 27 755 77 = true:=by decide +kernel
theorem do27_832 : rowO 27 832 72 = true:=by decide +kernel
theorem do27_904 : rowO 27 904 67 = true:=by decide +kernel
theorem do27_971 : rowO 27 971 65 = true:=by decide +kernel
theorem do27_1036 : rowO 27 1036 61 = true:=by decide +kernel
theorem do27_1097 : rowO 27 1097 59 = true:=by decide +kernel
theorem do27_1156 : rowO 27 1156 57 = true:=by decide +kernel
theorem do27_1213 : rowO 27 1213 54 = true:=by decide +kernel
theorem do27_1267 : rowO 27 1267 52 = true:=by decide +kernel
theorem do27_1319 : rowO 27 1319 51 = true:=by decide +kernel
end Go.Proofs.YtonigegpknhdnaaGreatDoor
