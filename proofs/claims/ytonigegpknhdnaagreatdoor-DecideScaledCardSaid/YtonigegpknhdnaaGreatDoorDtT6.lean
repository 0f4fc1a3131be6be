/- Part of the proof of a statement about decisions. -/
import Derived.Test.YtonigegpknhdnaaGreatDoorSp16ToRi1
set_option linter.all false
namespace Go.Proofs.YtonigegpknhdnaaGreatDoor
open Go Go.Eng Go.RowKit
theorem dt22_0 : rowK pairK 22 0 625 = true := by decide +kernel
theorem dt22_1 : rowK pairK 22 625 600 = true := by decide +kernel
theorem dt22_2 : rowK pairK 22 1225 775 = true := by decide +kernel
theorem dt22 : Rng pairK 22 2000 := ((Rng.zero.next dt22_0).next dt22_1).next dt22_2
theorem dt23_0 : rowK pairK 23 0 231 = true := by decide +kernel
theorem dt23_1 : rowK pairK 23 231 233 = true := by decide +kernel
theorem dt23_2 : rowK pairK 23 464 218 = true := by decide +kernel
theorem dt23_3 : rowK pairK 23 682 209 = true := by decide +kernel
theorem dt23_4 : rowK pairK 23 891 201 = true := by decide +kernel
theorem dt23_5 : rowK pairK 23 1092 200 = true := by decide +kernel
theorem dt23_6 : rowK pairK 23 1292 196 = true := by decide +kernel
theorem dt23_7 : rowK pairK 23 1488 228 = true := by decide +kernel
theorem dt23_8 : rowK pairK 23 1716 284 = true := by decide +kernel
theorem dt23 : Rng pairK 23 2000 := ((((((((Rng.zero.next dt23_0).next dt23_1).next dt23_2).next dt23_3).next dt23_4).next dt23_5).next dt23_6).next dt23_7).next dt23_8
theorem dt24_0 : rowK pairK 24 0 1025 = true := by decide +kernel
theorem dt24_1 : rowK pairK 24 1025 975 = true := by decide +kernel
theorem dt24 : Rng pairK 24 2000 := (Rng.zero.next dt24_0).next dt24_1
theorem dt25_0 : rowK pairK 25 0 611 = true := by decide +kernel
theorem dt25_1 : rowK pairK 25 611 565 = true := by decide +kernel
theorem dt25_2 : rowK pairK 25 1176 686 = true := by decide +kernel
theorem dt25_3 : rowK pairK 25 1862 138 = true := by decide +kernel
theorem dt25 : Rng pairK 25 2000 := (((Rng.zero.next dt25_0).next dt25_1).next dt25_2).next dt25_3
theorem dt26_0 : rowK pairK 26 0 651 = true := by decide +kernel
theorem dt26_1 : rowK pairK 26 651 702 = true := by decide +kernel
theorem dt26_2 : rowK pairK 26 1353 647 = true := by decide +kernel
theorem dt26 : Rng pairK 26 2000 := ((Rng.zero.next dt26_0).next dt26_1).next dt26_2
end Go.Proofs.YtonigegpknhdnaaGreatDoor
