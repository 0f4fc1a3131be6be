/- Part of the proof of a statement about decisions. -/
import Derived.Test.YtonigegpknhdnaaGreatDoorDoK
set_option linter.all false
namespace Go.Proofs.YtonigegpknhdnaaGreatDoor
open Go Go.Eng Go.RowKit
theorem do19_254 : rowO 19 254 83 = true:=by decide +kernel
theorem do19_337 : rowO 19 337 72 = true:=by decide +kernel
theorem do19_409 : rowO 19 409 64 = true:=by decide +kernel
theorem do19_473 : rowO 19 473 58 = true:=by decide +kernel
theorem do19_531 : rowO 19 531 54 = true:=by decide +kernel
theorem do19_585 : rowO 19 585 51 = true:=by decide +kernel
theorem do19_636 : rowO 19 636 47 = true:=by decide +kernel
theorem do19_683 : rowO 19 683 46 = true:=by decide +kernel
theorem do19_729 : rowO 19 729 43 = true:=by decide +kernel
theorem do19_772 : rowO 19 772 41 = true:=by decide +kernel
theorem do19_813 : rowO 19 813 40 = true:=by decide +kernel
theorem do19_853 : rowO 19 853 38 = true:=by decide +kernel
theorem do19_891 : rowO 19 891 37 = true:=by decide +kernel
theorem do19_928 : rowO 19 928 36 = true:=by decide +kernel
theorem do19_964 : rowO 19 964 35 = true:=by decide +kernel
theorem do19_999 : rowO 19 999 34 = true:=by decide +kernel
theorem do19_1033 : rowO 19 1033 33 = true:=by decide +kernel
theorem do19_1066 : rowO 19 1066 31 = true:=by decide +kernel
theorem do19_1097 : rowO 19 1097 32 = true:=by decide +kernel
theorem do19_1129 : rowO 19 1129 31 = true:=by decide +kernel
theorem do19_1160 : rowO 19 1160 29 = true:=by decide +kernel
theorem do19_1189 : rowO 19 1189 30 = true:=by decide +kernel
theorem do19_1219 : rowO 19 1219 28 = true:=by decide +kernel
theorem do19_1247 : rowO 19 1247 29 = true:=by decide +kernel
theorem do19_1276 : rowO 19 1276 27 = true:=by decide +kernel
theorem do19_1303 : rowO 19 1303 28 = true:=by decide +kernel
theorem do19_1331 : rowO 19 1331 26 = true:=by decide +kernel
theorem do19_1357 : rowO 19 1357 26 = true:=by decide +kernel
theorem do19_1383 : rowO 19 1383 26 = true:=by decide +kernel
theorem do19_1409 : rowO 19 1409 25 = true:=by decide +kernel
theorem do19_1434 : rowO 19 1434 25 = true:=by decide +kernel
theorem do19_1459 : rowO 19 1459 25 = true:=by decide +kernel
theorem do19_1484 : rowO 19 1484 24 = true:=by decide +kernel
theorem do19_1508 : rowO 19 1508 11 = true:=by decide +kernel
theorem do21_0 : rowO 21 0 227 = true:=by decide +kernel
theorem do21_227 : rowO 21 227 146 = true:=by decide +kernel
theorem do21_373 : rowO 21 373 114 = true:=by decide +kernel
theorem do21_487 : rowO 21 487 100 = true:=by decide +kernel
theorem do21_587 : rowO 21 587 87 = true:=by decide +kernel
end Go.Proofs.YtonigegpknhdnaaGreatDoor
