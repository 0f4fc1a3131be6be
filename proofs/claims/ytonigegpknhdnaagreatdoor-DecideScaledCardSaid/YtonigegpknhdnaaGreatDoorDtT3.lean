/- Part of the proof of a statement about decisions. -/
import Derived.Test.YtonigegpknhdnaaGreatDoorSp16ToRi1
set_option linter.all false
namespace Go.Proofs.YtonigegpknhdnaaGreatDoor
open Go Go.Eng Go.RowKit
theorem dt12_0 : rowK pairK 12 0 713 = true := by decide +kernel
theorem dt12_1 : rowK pairK 12 713 744 = true := by decide +kernel
theorem dt12_2 : rowK pairK 12 1457 462 = true := by decide +kernel
theorem dt12 : Rng pairK 12 1919 := ((Rng.zero.next dt12_0).next dt12_1).next dt12_2
theorem dt13_0 : rowK pairK 13 0 210 = true := by decide +kernel
theorem dt13_1 : rowK pairK 13 210 195 = true := by decide +kernel
theorem dt13_2 : rowK pairK 13 405 171 = true := by decide +kernel
theorem dt13_3 : rowK pairK 13 576 159 = true := by decide +kernel
theorem dt13_4 : rowK pairK 13 735 140 = true := by decide +kernel
theorem dt13_5 : rowK pairK 13 875 148 = true := by decide +kernel
theorem dt13_6 : rowK pairK 13 1023 129 = true := by decide +kernel
theorem dt13_7 : rowK pairK 13 1152 143 = true := by decide +kernel
theorem dt13_8 : rowK pairK 13 1295 131 = true := by decide +kernel
theorem dt13_9 : rowK pairK 13 1426 128 = true := by decide +kernel
theorem dt13_10 : rowK pairK 13 1554 161 = true := by decide +kernel
theorem dt13_11 : rowK pairK 13 1715 285 = true := by decide +kernel
theorem dt13 : Rng pairK 13 2000 := (((((((((((Rng.zero.next dt13_0).next dt13_1).next dt13_2).next dt13_3).next dt13_4).next dt13_5).next dt13_6).next dt13_7).next dt13_8).next dt13_9).next dt13_10).next dt13_11
theorem dt14_0 : rowK pairK 14 0 559 = true := by decide +kernel
theorem dt14_1 : rowK pairK 14 559 522 = true := by decide +kernel
theorem dt14_2 : rowK pairK 14 1081 752 = true := by decide +kernel
theorem dt14_3 : rowK pairK 14 1833 167 = true := by decide +kernel
theorem dt14 : Rng pairK 14 2000 := (((Rng.zero.next dt14_0).next dt14_1).next dt14_2).next dt14_3
end Go.Proofs.YtonigegpknhdnaaGreatDoor
