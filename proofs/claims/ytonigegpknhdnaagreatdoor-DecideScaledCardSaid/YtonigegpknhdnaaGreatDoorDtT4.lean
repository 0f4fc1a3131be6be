/- Part of the proof of a statement about decisions. -/
import Derived.Test.YtonigegpknhdnaaGreatDoorSp16ToRi1
set_option linter.all false
namespace Go.Proofs.YtonigegpknhdnaaGreatDoor
open Go Go.Eng Go.RowKit
theorem dt15_0 : rowK pairK 15 0 481 = true := by decide +kernel
theorem dt15_1 : rowK pairK 15 481 387 = true := by decide +kernel
theorem dt15_2 : rowK pairK 15 868 364 = true := by decide +kernel
theorem dt15_3 : rowK pairK 15 1232 402 = true := by decide +kernel
theorem dt15_4 : rowK pairK 15 1634 366 = true := by decide +kernel
theorem dt15 : Rng pairK 15 2000 := ((((Rng.zero.next dt15_0).next dt15_1).next dt15_2).next dt15_3).next dt15_4
theorem dt16_0 : rowK pairK 16 0 875 = true := by decide +kernel
theorem dt16_1 : rowK pairK 16 875 1125 = true := by decide +kernel
theorem dt16 : Rng pairK 16 2000 := (Rng.zero.next dt16_0).next dt16_1
theorem dt17_0 : rowK pairK 17 0 222 = true := by decide +kernel
theorem dt17_1 : rowK pairK 17 222 212 = true := by decide +kernel
theorem dt17_2 : rowK pairK 17 434 191 = true := by decide +kernel
theorem dt17_3 : rowK pairK 17 625 185 = true := by decide +kernel
theorem dt17_4 : rowK pairK 17 810 165 = true := by decide +kernel
theorem dt17_5 : rowK pairK 17 975 153 = true := by decide +kernel
theorem dt17_6 : rowK pairK 17 1128 160 = true := by decide +kernel
theorem dt17_7 : rowK pairK 17 1288 156 = true := by decide +kernel
theorem dt17_8 : rowK pairK 17 1444 176 = true := by decide +kernel
theorem dt17_9 : rowK pairK 17 1620 230 = true := by decide +kernel
theorem dt17_10 : rowK pairK 17 1850 150 = true := by decide +kernel
theorem dt17 : Rng pairK 17 2000 := ((((((((((Rng.zero.next dt17_0).next dt17_1).next dt17_2).next dt17_3).next dt17_4).next dt17_5).next dt17_6).next dt17_7).next dt17_8).next dt17_9).next dt17_10
end Go.Proofs.YtonigegpknhdnaaGreatDoor
