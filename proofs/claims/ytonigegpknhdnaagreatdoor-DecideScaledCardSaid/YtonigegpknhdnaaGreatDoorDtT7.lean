/- Part of the proof of a statement about decisions. -/
import Derived.Test.YtonigegpknhdnaaGreatDoorSp16ToRi1
set_option linter.all false
namespace Go.Proofs.YtonigegpknhdnaaGreatDoor
open Go Go.Eng Go.RowKit
theorem dt27_0 : rowK pairK 27 0 391 = true := by decide +kernel
theorem dt27_1 : rowK pairK 27 391 408 = true := by decide +kernel
theorem dt27_2 : rowK pairK 27 799 379 = true := by decide +kernel
theorem dt27_3 : rowK pairK 27 1178 413 = true := by decide +kernel
theorem dt27_4 : rowK pairK 27 1591 409 = true := by decide +kernel
theorem dt27 : Rng pairK 27 2000 := ((((Rng.zero.next dt27_0).next dt27_1).next dt27_2).next dt27_3).next dt27_4
theorem dt28_0 : rowK pairK 28 0 731 = true := by decide +kernel
theorem dt28_1 : rowK pairK 28 731 1102 = true := by decide +kernel
theorem dt28_2 : rowK pairK 28 1833 167 = true := by decide +kernel
theorem dt28 : Rng pairK 28 2000 := ((Rng.zero.next dt28_0).next dt28_1).next dt28_2
theorem dt29_0 : rowK pairK 29 0 238 = true := by decide +kernel
theorem dt29_1 : rowK pairK 29 238 248 = true := by decide +kernel
theorem dt29_2 : rowK pairK 29 486 242 = true := by decide +kernel
theorem dt29_3 : rowK pairK 29 728 233 = true := by decide +kernel
theorem dt29_4 : rowK pairK 29 961 229 = true := by decide +kernel
theorem dt29_5 : rowK pairK 29 1190 245 = true := by decide +kernel
theorem dt29_6 : rowK pairK 29 1435 237 = true := by decide +kernel
theorem dt29_7 : rowK pairK 29 1672 328 = true := by decide +kernel
theorem dt29 : Rng pairK 29 2000 := (((((((Rng.zero.next dt29_0).next dt29_1).next dt29_2).next dt29_3).next dt29_4).next dt29_5).next dt29_6).next dt29_7
theorem dt30_0 : rowK pairK 30 0 2000 = true := by decide +kernel
theorem dt30 : Rng pairK 30 2000 := Rng.zero.next dt30_0
end Go.Proofs.YtonigegpknhdnaaGreatDoor
