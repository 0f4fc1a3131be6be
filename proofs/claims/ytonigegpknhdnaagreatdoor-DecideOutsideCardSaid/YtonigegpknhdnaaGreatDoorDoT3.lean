/- Part of the proof of a statement about decisions. -/
import Derived.Test.YtonigegpknhdnaaGreatDoorDoK
set_option linter.all false
namespace Go.Proofs.YtonigegpknhdnaaGreatDoor
open Go Go.Eng Go.RowKit
theorem do13_891 : rowO 13 891 28 = true:=by decide +kernel
theorem do13_919 : rowO 13 919 27 = true:=by decide +kernel
theorem do13_946 : rowO 13 946 26 = true:=by decide +kernel
theorem do13_972 : rowO 13 972 26 = true:=by decide +kernel
theorem do13_998 : rowO 13 998 25 = true:=by decide +kernel
theorem do13_1023 : rowO 13 1023 16 = true:=by decide +kernel
theorem do17_0 : rowO 17 0 148 = true:=by decide +kernel
theorem do17_148 : rowO 17 148 99 = true:=by decide +kernel
theorem do17_247 : rowO 17 247 80 = true:=by decide +kernel
theorem do17_327 : rowO 17 327 68 = true:=by decide +kernel
theorem do17_395 : rowO 17 395 61 = true:=by decide +kernel
theorem do17_456 : rowO 17 456 56 = true:=by decide +kernel
theorem do17_512 : rowO 17 512 52 = true:=by decide +kernel
theorem do17_564 : rowO 17 564 47 = true:=by decide +kernel
theorem do17_611 : rowO 17 611 46 = true:=by decide +kernel
theorem do17_657 : rowO 17 657 44 = true:=by decide +kernel
theorem do17_701 : rowO 17 701 41 = true:=by decide +kernel
theorem do17_742 : rowO 17 742 39 = true:=by decide +kernel
theorem do17_781 : rowO 17 781 39 = true:=by decide +kernel
theorem do17_820 : rowO 17 820 36 = true:=by decide +kernel
theorem do17_856 : rowO 17 856 35 = true:=by decide +kernel
theorem do17_891 : rowO 17 891 34 = true:=by decide +kernel
theorem do17_925 : rowO 17 925 33 = true:=by decide +kernel
theorem do17_958 : rowO 17 958 32 = true:=by decide +kernel
theorem do17_990 : rowO 17 990 31 = true:=by decide +kernel
theorem do17_1021 : rowO 17 1021 30 = true:=by decide +kernel
theorem do17_1051 : rowO 17 1051 30 = true:=by decide +kernel
theorem do17_1081 : rowO 17 1081 29 = true:=by decide +kernel
theorem do17_1110 : rowO 17 1110 28 = true:=by decide +kernel
theorem do17_1138 : rowO 17 1138 28 = true:=by decide +kernel
theorem do17_1166 : rowO 17 1166 28 = true:=by decide +kernel
theorem do17_1194 : rowO 17 1194 26 = true:=by decide +kernel
theorem do17_1220 : rowO 17 1220 27 = true:=by decide +kernel
theorem do17_1247 : rowO 17 1247 25 = true:=by decide +kernel
theorem do17_1272 : rowO 17 1272 26 = true:=by decide +kernel
theorem do17_1298 : rowO 17 1298 24 = true:=by decide +kernel
theorem do17_1322 : rowO 17 1322 25 = true:=by decide +kernel
theorem do17_1347 : rowO 17 1347 12 = true:=by decide +kernel
theorem do19_0 : rowO 19 0 151 = true:=by decide +kernel
theorem do19_151 : rowO 19 151 103 = true:=by decide +kernel
end Go.Proofs.YtonigegpknhdnaaGreatDoor
