/- Part of the proof of a statement about decisions. -/
import Derived.Test.YtonigegpknhdnaaGreatDoorSp16ToRi1
set_option linter.all false
namespace Go.Proofs.YtonigegpknhdnaaGreatDoor
open Go Go.Eng Go.RowKit
theorem dt8_0 : rowK pairK 8 0 625 = true := by decide +kernel
theorem dt8_1 : rowK pairK 8 625 482 = true := by decide +kernel
theorem dt8_2 : rowK pairK 8 1107 172 = true := by decide +kernel
theorem dt8 : Rng pairK 8 1279 := ((Rng.zero.next dt8_0).next dt8_1).next dt8_2
theorem dt9_0 : rowK pairK 9 0 286 = true := by decide +kernel
theorem dt9_1 : rowK pairK 9 286 220 = true := by decide +kernel
theorem dt9_2 : rowK pairK 9 506 194 = true := by decide +kernel
theorem dt9_3 : rowK pairK 9 700 184 = true := by decide +kernel
theorem dt9_4 : rowK pairK 9 884 174 = true := by decide +kernel
theorem dt9_5 : rowK pairK 9 1058 164 = true := by decide +kernel
theorem dt9_6 : rowK pairK 9 1222 154 = true := by decide +kernel
theorem dt9_7 : rowK pairK 9 1376 63 = true := by decide +kernel
theorem dt9 : Rng pairK 9 1439 := (((((((Rng.zero.next dt9_0).next dt9_1).next dt9_2).next dt9_3).next dt9_4).next dt9_5).next dt9_6).next dt9_7
theorem dt10_0 : rowK pairK 10 0 957 = true := by decide +kernel
theorem dt10_1 : rowK pairK 10 957 642 = true := by decide +kernel
theorem dt10 : Rng pairK 10 1599 := (Rng.zero.next dt10_0).next dt10_1
theorem dt11_0 : rowK pairK 11 0 207 = true := by decide +kernel
theorem dt11_1 : rowK pairK 11 207 183 = true := by decide +kernel
theorem dt11_2 : rowK pairK 11 390 165 = true := by decide +kernel
theorem dt11_3 : rowK pairK 11 555 141 = true := by decide +kernel
theorem dt11_4 : rowK pairK 11 696 124 = true := by decide +kernel
theorem dt11_5 : rowK pairK 11 820 132 = true := by decide +kernel
theorem dt11_6 : rowK pairK 11 952 123 = true := by decide +kernel
theorem dt11_7 : rowK pairK 11 1075 121 = true := by decide +kernel
theorem dt11_8 : rowK pairK 11 1196 116 = true := by decide +kernel
theorem dt11_9 : rowK pairK 11 1312 123 = true := by decide +kernel
theorem dt11_10 : rowK pairK 11 1435 123 = true := by decide +kernel
theorem dt11_11 : rowK pairK 11 1558 144 = true := by decide +kernel
theorem dt11_12 : rowK pairK 11 1702 57 = true := by decide +kernel
theorem dt11 : Rng pairK 11 1759 := ((((((((((((Rng.zero.next dt11_0).next dt11_1).next dt11_2).next dt11_3).next dt11_4).next dt11_5).next dt11_6).next dt11_7).next dt11_8).next dt11_9).next dt11_10).next dt11_11).next dt11_12
end Go.Proofs.YtonigegpknhdnaaGreatDoor
