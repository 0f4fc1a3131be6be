/- Part of the proof of a statement about decisions. -/
import Derived.Test.YtonigegpknhdnaaGreatDoorDoK
set_option linter.all false
namespace Go.Proofs.YtonigegpknhdnaaGreatDoor
open Go Go.Eng Go.RowKit
theorem do9_689 : rowO 9 689 30 = true:=by decide +kernel
theorem do11_0 : rowO 11 0 136 = true:=by decide +kernel
theorem do11_136 : rowO 11 136 85 = true:=by decide +kernel
theorem do11_221 : rowO 11 221 67 = true:=by decide +kernel
theorem do11_288 : rowO 11 288 57 = true:=by decide +kernel
theorem do11_345 : rowO 11 345 50 = true:=by decide +kernel
theorem do11_395 : rowO 11 395 47 = true:=by decide +kernel
theorem do11_442 : rowO 11 442 43 = true:=by decide +kernel
theorem do11_485 : rowO 11 485 39 = true:=by decide +kernel
theorem do11_524 : rowO 11 524 38 = true:=by decide +kernel
theorem do11_562 : rowO 11 562 35 = true:=by decide +kernel
theorem do11_597 : rowO 11 597 34 = true:=by decide +kernel
theorem do11_631 : rowO 11 631 33 = true:=by decide +kernel
theorem do11_664 : rowO 11 664 31 = true:=by decide +kernel
theorem do11_695 : rowO 11 695 29 = true:=by decide +kernel
theorem do11_724 : rowO 11 724 29 = true:=by decide +kernel
theorem do11_753 : rowO 11 753 29 = true:=by decide +kernel
theorem do11_782 : rowO 11 782 27 = true:=by decide +kernel
theorem do11_809 : rowO 11 809 26 = true:=by decide +kernel
theorem do11_835 : rowO 11 835 26 = true:=by decide +kernel
theorem do11_861 : rowO 11 861 18 = true:=by decide +kernel
theorem do13_0 : rowO 13 0 140 = true:=by decide +kernel
theorem do13_140 : rowO 13 140 90 = true:=by decide +kernel
theorem do13_230 : rowO 13 230 72 = true:=by decide +kernel
theorem do13_302 : rowO 13 302 61 = true:=by decide +kernel
theorem do13_363 : rowO 13 363 55 = true:=by decide +kernel
theorem do13_418 : rowO 13 418 49 = true:=by decide +kernel
theorem do13_467 : rowO 13 467 46 = true:=by decide +kernel
theorem do13_513 : rowO 13 513 43 = true:=by decide +kernel
theorem do13_556 : rowO 13 556 40 = true:=by decide +kernel
theorem do13_596 : rowO 13 596 38 = true:=by decide +kernel
theorem do13_634 : rowO 13 634 37 = true:=by decide +kernel
theorem do13_671 : rowO 13 671 35 = true:=by decide +kernel
theorem do13_706 : rowO 13 706 33 = true:=by decide +kernel
theorem do13_739 : rowO 13 739 33 = true:=by decide +kernel
theorem do13_772 : rowO 13 772 31 = true:=by decide +kernel
theorem do13_803 : rowO 13 803 31 = true:=by decide +kernel
theorem do13_834 : rowO 13 834 29 = true:=by decide +kernel
theorem do13_863 : rowO 13 863 28 = true:=by decide +kernel
end Go.Proofs.YtonigegpknhdnaaGreatDoor
