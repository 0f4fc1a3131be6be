/- Part of the proof of a statement about decisions. -/
import Derived.Test.YtonigegpknhdnaaGreatDoorDoK
set_option linter.all false
namespace Go.Proofs.YtonigegpknhdnaaGreatDoor
open Go Go.Eng Go.RowKit
theorem do21_674 : rowO 21 674 81 = true:=by decide +kernel
theorem do21_755 : rowO 21 755 74 = true:=by decide +kernel
theorem do21_829 : rowO 21 829 70 = true:=by decide +kernel
theorem do21_899 : rowO 21 899 65 = true:=by decide +kernel
theorem do21_964 : rowO 21 964 61 = true:=by decide +kernel
theorem do21_1025 : rowO 21 1025 59 = true:=by decide +kernel
theorem do21_1084 : rowO 21 1084 55 = true:=by decide +kernel
theorem do21_1139 : rowO 21 1139 56 = true:=by decide +kernel
theorem do21_1195 : rowO 21 1195 52 = true:=by decide +kernel
theorem do21_1247 : rowO 21 1247 51 = true:=by decide +kernel
theorem do21_1298 : rowO 21 1298 48 = true:=by decide +kernel
theorem do21_1346 : rowO 21 1346 48 = true:=by decide +kernel
theorem do21_1394 : rowO 21 1394 45 = true:=by decide +kernel
theorem do21_1439 : rowO 21 1439 47 = true:=by decide +kernel
theorem do21_1486 : rowO 21 1486 43 = true:=by decide +kernel
theorem do21_1529 : rowO 21 1529 42 = true:=by decide +kernel
theorem do21_1571 : rowO 21 1571 42 = true:=by decide +kernel
theorem do21_1613 : rowO 21 1613 41 = true:=by decide +kernel
theorem do21_1654 : rowO 21 1654 25 = true:=by decide +kernel
theorem do23_0 : rowO 23 0 156 = true:=by decide +kernel
theorem do23_156 : rowO 23 156 110 = true:=by decide +kernel
theorem do23_266 : rowO 23 266 90 = true:=by decide +kernel
theorem do23_356 : rowO 23 356 77 = true:=by decide +kernel
theorem do23_433 : rowO 23 433 69 = true:=by decide +kernel
theorem do23_502 : rowO 23 502 64 = true:=by decide +kernel
theorem do23_566 : rowO 23 566 59 = true:=by decide +kernel
theorem do23_625 : rowO 23 625 55 = true:=by decide +kernel
theorem do23_680 : rowO 23 680 52 = true:=by decide +kernel
theorem do23_732 : rowO 23 732 49 = true:=by decide +kernel
theorem do23_781 : rowO 23 781 48 = true:=by decide +kernel
theorem do23_829 : rowO 23 829 44 = true:=by decide +kernel
theorem do23_873 : rowO 23 873 43 = true:=by decide +kernel
theorem do23_916 : rowO 23 916 42 = true:=by decide +kernel
theorem do23_958 : rowO 23 958 41 = true:=by decide +kernel
theorem do23_999 : rowO 23 999 39 = true:=by decide +kernel
theorem do23_1038 : rowO 23 1038 37 = true:=by decide +kernel
theorem do23_1075 : rowO 23 1075 37 = true:=by decide +kernel
theorem do23_1112 : rowO 23 1112 35 = true:=by decide +kernel
theorem do23_1147 : rowO 23 1147 35 = true:=by decide +kernel
end Go.Proofs.YtonigegpknhdnaaGreatDoor
