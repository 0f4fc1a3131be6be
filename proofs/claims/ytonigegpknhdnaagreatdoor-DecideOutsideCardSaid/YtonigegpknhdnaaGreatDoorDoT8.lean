/- Part of the proof of a statement about decisions. -/
import Derived.Test.YtonigegpknhdnaaGreatDoorDoK
set_option linter.all false
namespace Go.Proofs.YtonigegpknhdnaaGreatDoor
open Go Go.Eng Go.RowKit
theorem do29_1256 : rowO 29 1256 39 = true:=by decide +kernel
theorem do29_1295 : rowO 29 1295 38 = true:=by decide +kernel
theorem do29_1333 : rowO 29 1333 38 = true:=by decide +kernel
theorem do29_1371 : rowO 29 1371 36 = true:=by decide +kernel
theorem do29_1407 : rowO 29 1407 35 = true:=by decide +kernel
theorem do29_1442 : rowO 29 1442 35 = true:=by decide +kernel
theorem do29_1477 : rowO 29 1477 35 = true:=by decide +kernel
theorem do29_1512 : rowO 29 1512 33 = true:=by decide +kernel
theorem do29_1545 : rowO 29 1545 33 = true:=by decide +kernel
theorem do29_1578 : rowO 29 1578 32 = true:=by decide +kernel
theorem do29_1610 : rowO 29 1610 32 = true:=by decide +kernel
theorem do29_1642 : rowO 29 1642 31 = true:=by decide +kernel
theorem do29_1673 : rowO 29 1673 31 = true:=by decide +kernel
theorem do29_1704 : rowO 29 1704 30 = true:=by decide +kernel
theorem do29_1734 : rowO 29 1734 30 = true:=by decide +kernel
theorem do29_1764 : rowO 29 1764 30 = true:=by decide +kernel
theorem do29_1794 : rowO 29 1794 29 = true:=by decide +kernel
theorem do29_1823 : rowO 29 1823 29 = true:=by decide +kernel
theorem do29_1852 : rowO 29 1852 28 = true:=by decide +kernel
theorem do29_1880 : rowO 29 1880 28 = true:=by decide +kernel
theorem do29_1908 : rowO 29 1908 28 = true:=by decide +kernel
theorem do29_1936 : rowO 29 1936 27 = true:=by decide +kernel
theorem do29_1963 : rowO 29 1963 27 = true:=by decide +kernel
theorem do29_1990 : rowO 29 1990 27 = true:=by decide +kernel
theorem do29_2017 : rowO 29 2017 26 = true:=by decide +kernel
theorem do29_2043 : rowO 29 2043 26 = true:=by decide +kernel
theorem do29_2069 : rowO 29 2069 26 = true:=by decide +kernel
theorem do29_2095 : rowO 29 2095 26 = true:=by decide +kernel
theorem do29_2121 : rowO 29 2121 24 = true:=by decide +kernel
theorem do29_2145 : rowO 29 2145 25 = true:=by decide +kernel
theorem do29_2170 : rowO 29 2170 25 = true:=by decide +kernel
theorem do29_2195 : rowO 29 2195 25 = true:=by decide +kernel
theorem do29_2220 : rowO 29 2220 24 = true:=by decide +kernel
theorem do29_2244 : rowO 29 2244 24 = true:=by decide +kernel
theorem do29_2268 : rowO 29 2268 24 = true:=by decide +kernel
theorem do29_2292 : rowO 29 2292 23 = true:=by decide +kernel
theorem do29_2315 : rowO 29 2315 4 = true:=by decide +kernel
end Go.Proofs.YtonigegpknhdnaaGreatDoor
