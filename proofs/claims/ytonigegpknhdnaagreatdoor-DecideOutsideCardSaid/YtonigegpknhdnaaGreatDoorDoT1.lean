/- Part of the proof of a statement about decisions. -/
import Derived.Test.YtonigegpknhdnaaGreatDoorDoK
set_option linter.all false
namespace Go.Proofs.YtonigegpknhdnaaGreatDoor
open Go Go.Eng Go.RowKit
theorem do1_0 : rowO 1 0 79 = true:=by decide +kernel
theorem do2_0 : rowO 2 0 159 = true:=by decide +kernel
theorem do3_0 : rowO 3 0 107 = true:=by decide +kernel
theorem do3_107 : rowO 3 107 56 = true:=by decide +kernel
theorem do3_163 : rowO 3 163 42 = true:=by decide +kernel
theorem do3_205 : rowO 3 205 34 = true:=by decide +kernel
theorem do4_0 : rowO 4 0 217 = true:=by decide +kernel
theorem do4_217 : rowO 4 217 102 = true:=by decide +kernel
theorem do5_0 : rowO 5 0 179 = true:=by decide +kernel
theorem do5_179 : rowO 5 179 92 = true:=by decide +kernel
theorem do5_271 : rowO 5 271 71 = true:=by decide +kernel
theorem do5_342 : rowO 5 342 57 = true:=by decide +kernel
theorem do6_0 : rowO 6 0 215 = true:=by decide +kernel
theorem do6_215 : rowO 6 215 110 = true:=by decide +kernel
theorem do6_325 : rowO 6 325 84 = true:=by decide +kernel
theorem do6_409 : rowO 6 409 70 = true:=by decide +kernel
theorem do7_0 : rowO 7 0 124 = true:=by decide +kernel
theorem do7_124 : rowO 7 124 71 = true:=by decide +kernel
theorem do7_195 : rowO 7 195 56 = true:=by decide +kernel
theorem do7_251 : rowO 7 251 48 = true:=by decide +kernel
theorem do7_299 : rowO 7 299 42 = true:=by decide +kernel
theorem do7_341 : rowO 7 341 39 = true:=by decide +kernel
theorem do7_380 : rowO 7 380 35 = true:=by decide +kernel
theorem do7_415 : rowO 7 415 32 = true:=by decide +kernel
theorem do7_447 : rowO 7 447 32 = true:=by decide +kernel
theorem do7_479 : rowO 7 479 29 = true:=by decide +kernel
theorem do7_508 : rowO 7 508 28 = true:=by decide +kernel
theorem do7_536 : rowO 7 536 23 = true:=by decide +kernel
theorem do9_0 : rowO 9 0 160 = true:=by decide +kernel
theorem do9_160 : rowO 9 160 91 = true:=by decide +kernel
theorem do9_251 : rowO 9 251 72 = true:=by decide +kernel
theorem do9_323 : rowO 9 323 62 = true:=by decide +kernel
theorem do9_385 : rowO 9 385 54 = true:=by decide +kernel
theorem do9_439 : rowO 9 439 49 = true:=by decide +kernel
theorem do9_488 : rowO 9 488 45 = true:=by decide +kernel
theorem do9_533 : rowO 9 533 42 = true:=by decide +kernel
theorem do9_575 : rowO 9 575 41 = true:=by decide +kernel
theorem do9_616 : rowO 9 616 37 = true:=by decide +kernel
theorem do9_653 : rowO 9 653 36 = true:=by decide +kernel
end Go.Proofs.YtonigegpknhdnaaGreatDoor
