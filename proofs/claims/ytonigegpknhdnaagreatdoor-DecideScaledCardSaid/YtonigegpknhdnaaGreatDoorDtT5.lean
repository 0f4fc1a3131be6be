/- Part of the proof of a statement about decisions. -/
import Derived.Test.YtonigegpknhdnaaGreatDoorSp16ToRi1
set_option linter.all false
namespace Go.Proofs.YtonigegpknhdnaaGreatDoor
open Go Go.Eng Go.RowKit
theorem dt18_0 : rowK pairK 18 0 893 = true := by decide +kernel
theorem dt18_1 : rowK pairK 18 893 1107 = true := by decide +kernel
theorem dt18 : Rng pairK 18 2000 := (Rng.zero.next dt18_0).next dt18_1
theorem dt19_0 : rowK pairK 19 0 224 = true := by decide +kernel
theorem dt19_1 : rowK pairK 19 224 220 = true := by decide +kernel
theorem dt19_2 : rowK pairK 19 444 204 = true := by decide +kernel
theorem dt19_3 : rowK pairK 19 648 189 = true := by decide +kernel
theorem dt19_4 : rowK pairK 19 837 186 = true := by decide +kernel
theorem dt19_5 : rowK pairK 19 1023 166 = true := by decide +kernel
theorem dt19_6 : rowK pairK 19 1189 174 = true := by decide +kernel
theorem dt19_7 : rowK pairK 19 1363 173 = true := by decide +kernel
theorem dt19_8 : rowK pairK 19 1536 219 = true := by decide +kernel
theorem dt19_9 : rowK pairK 19 1755 245 = true := by decide +kernel
theorem dt19 : Rng pairK 19 2000 := (((((((((Rng.zero.next dt19_0).next dt19_1).next dt19_2).next dt19_3).next dt19_4).next dt19_5).next dt19_6).next dt19_7).next dt19_8).next dt19_9
theorem dt20_0 : rowK pairK 20 0 1517 = true := by decide +kernel
theorem dt20_1 : rowK pairK 20 1517 483 = true := by decide +kernel
theorem dt20 : Rng pairK 20 2000 := (Rng.zero.next dt20_0).next dt20_1
theorem dt21_0 : rowK pairK 21 0 484 = true := by decide +kernel
theorem dt21_1 : rowK pairK 21 484 459 = true := by decide +kernel
theorem dt21_2 : rowK pairK 21 943 433 = true := by decide +kernel
theorem dt21_3 : rowK pairK 21 1376 624 = true := by decide +kernel
theorem dt21 : Rng pairK 21 2000 := (((Rng.zero.next dt21_0).next dt21_1).next dt21_2).next dt21_3
end Go.Proofs.YtonigegpknhdnaaGreatDoor
