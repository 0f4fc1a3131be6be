/- Part of the proof of a statement about decisions. -/
import Derived.Test.YtonigegpknhdnaaGreatDoorSp16ToRi1
set_option linter.all false
namespace Go.Proofs.YtonigegpknhdnaaGreatDoor
open Go Go.Eng Go.RowKit
theorem dt1_0 : rowK pairK 1 0 123 = true := by decide +kernel
theorem dt1_1 : rowK pairK 1 123 36 = true := by decide +kernel
theorem dt1 : Rng pairK 1 159 := (Rng.zero.next dt1_0).next dt1_1
theorem dt2_0 : rowK pairK 2 0 315 = true := by decide +kernel
theorem dt2_1 : rowK pairK 2 315 4 = true := by decide +kernel
theorem dt2 : Rng pairK 2 319 := (Rng.zero.next dt2_0).next dt2_1
theorem dt3_0 : rowK pairK 3 0 184 = true := by decide +kernel
theorem dt3_1 : rowK pairK 3 184 120 = true := by decide +kernel
theorem dt3_2 : rowK pairK 3 304 102 = true := by decide +kernel
theorem dt3_3 : rowK pairK 3 406 73 = true := by decide +kernel
theorem dt3 : Rng pairK 3 479 := (((Rng.zero.next dt3_0).next dt3_1).next dt3_2).next dt3_3
theorem dt4_0 : rowK pairK 4 0 437 = true := by decide +kernel
theorem dt4_1 : rowK pairK 4 437 202 = true := by decide +kernel
theorem dt4 : Rng pairK 4 639 := (Rng.zero.next dt4_0).next dt4_1
theorem dt5_0 : rowK pairK 5 0 328 = true := by decide +kernel
theorem dt5_1 : rowK pairK 5 328 216 = true := by decide +kernel
theorem dt5_2 : rowK pairK 5 544 184 = true := by decide +kernel
theorem dt5_3 : rowK pairK 5 728 71 = true := by decide +kernel
theorem dt5 : Rng pairK 5 799 := (((Rng.zero.next dt5_0).next dt5_1).next dt5_2).next dt5_3
theorem dt6_0 : rowK pairK 6 0 517 = true := by decide +kernel
theorem dt6_1 : rowK pairK 6 517 376 = true := by decide +kernel
theorem dt6_2 : rowK pairK 6 893 66 = true := by decide +kernel
theorem dt6 : Rng pairK 6 959 := ((Rng.zero.next dt6_0).next dt6_1).next dt6_2
theorem dt7_0 : rowK pairK 7 0 192 = true := by decide +kernel
theorem dt7_1 : rowK pairK 7 192 159 = true := by decide +kernel
theorem dt7_2 : rowK pairK 7 351 133 = true := by decide +kernel
theorem dt7_3 : rowK pairK 7 484 116 = true := by decide +kernel
theorem dt7_4 : rowK pairK 7 600 120 = true := by decide +kernel
theorem dt7_5 : rowK pairK 7 720 96 = true := by decide +kernel
theorem dt7_6 : rowK pairK 7 816 102 = true := by decide +kernel
theorem dt7_7 : rowK pairK 7 918 96 = true := by decide +kernel
theorem dt7_8 : rowK pairK 7 1014 90 = true := by decide +kernel
theorem dt7_9 : rowK pairK 7 1104 15 = true := by decide +kernel
theorem dt7 : Rng pairK 7 1119 := (((((((((Rng.zero.next dt7_0).next dt7_1).next dt7_2).next dt7_3).next dt7_4).next dt7_5).next dt7_6).next dt7_7).next dt7_8).next dt7_9
end Go.Proofs.YtonigegpknhdnaaGreatDoor
