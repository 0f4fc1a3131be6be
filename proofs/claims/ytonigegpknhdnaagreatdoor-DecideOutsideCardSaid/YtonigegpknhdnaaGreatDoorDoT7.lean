/- Part of the proof of a statement about decisions. -/
import Derived.Test.YtonigegpknhdnaaGreatDoorDoK
set_option linter.all false
namespace Go.Proofs.YtonigegpknhdnaaGreatDoor
open Go Go.Eng Go.RowKit
theorem do27_1370 : rowO 27 1370 50 = true:=by decide +kernel
theorem do27_1420 : rowO 27 1420 48 = true:=by decide +kernel
theorem do27_1468 : rowO 27 1468 46 = true:=by decide +kernel
theorem do27_1514 : rowO 27 1514 45 = true:=by decide +kernel
theorem do27_1559 : rowO 27 1559 45 = true:=by decide +kernel
theorem do27_1604 : rowO 27 1604 44 = true:=by decide +kernel
theorem do27_1648 : rowO 27 1648 42 = true:=by decide +kernel
theorem do27_1690 : rowO 27 1690 42 = true:=by decide +kernel
theorem do27_1732 : rowO 27 1732 40 = true:=by decide +kernel
theorem do27_1772 : rowO 27 1772 41 = true:=by decide +kernel
theorem do27_1813 : rowO 27 1813 39 = true:=by decide +kernel
theorem do27_1852 : rowO 27 1852 39 = true:=by decide +kernel
theorem do27_1891 : rowO 27 1891 37 = true:=by decide +kernel
theorem do27_1928 : rowO 27 1928 38 = true:=by decide +kernel
theorem do27_1966 : rowO 27 1966 36 = true:=by decide +kernel
theorem do27_2002 : rowO 27 2002 36 = true:=by decide +kernel
theorem do27_2038 : rowO 27 2038 36 = true:=by decide +kernel
theorem do27_2074 : rowO 27 2074 34 = true:=by decide +kernel
theorem do27_2108 : rowO 27 2108 35 = true:=by decide +kernel
theorem do27_2143 : rowO 27 2143 16 = true:=by decide +kernel
theorem do29_0 : rowO 29 0 162 = true:=by decide +kernel
theorem do29_162 : rowO 29 162 118 = true:=by decide +kernel
theorem do29_280 : rowO 29 280 98 = true:=by decide +kernel
theorem do29_378 : rowO 29 378 84 = true:=by decide +kernel
theorem do29_462 : rowO 29 462 77 = true:=by decide +kernel
theorem do29_539 : rowO 29 539 71 = true:=by decide +kernel
theorem do29_610 : rowO 29 610 65 = true:=by decide +kernel
theorem do29_675 : rowO 29 675 61 = true:=by decide +kernel
theorem do29_736 : rowO 29 736 57 = true:=by decide +kernel
theorem do29_793 : rowO 29 793 55 = true:=by decide +kernel
theorem do29_848 : rowO 29 848 52 = true:=by decide +kernel
theorem do29_900 : rowO 29 900 49 = true:=by decide +kernel
theorem do29_949 : rowO 29 949 48 = true:=by decide +kernel
theorem do29_997 : rowO 29 997 46 = true:=by decide +kernel
theorem do29_1043 : rowO 29 1043 45 = true:=by decide +kernel
theorem do29_1088 : rowO 29 1088 44 = true:=by decide +kernel
theorem do29_1132 : rowO 29 1132 42 = true:=by decide +kernel
theorem do29_1174 : rowO 29 1174 41 = true:=by decide +kernel
theorem do29_1215 : rowO 29 1215 41 = true:=by decide +kernel
end Go.Proofs.YtonigegpknhdnaaGreatDoor
