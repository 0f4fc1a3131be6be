/- Part of the proof of a statement about risks. -/
import Derived.Test.YtmehbpjpbbhohaaGreatDoorRjiToDmV
set_option linter.all false
namespace Go.Proofs.YtmehbpjpbbhohaaGreatDoor
open Go Go.Eng Go.RowKit
theorem dm32_0:rowM 32 (λx y=>and (Nat.beq x 9088863665829703264) (Nat.beq y 9087399580663224914)) 1494 1 5000000000000000000 0=true:=by decide +kernel
theorem dm32_1:rowM 32 (λx y=>and (Nat.beq x 9961831645676461828) (Nat.beq y 9961730097493254685)) 1494 1495 9088863665829703264 9087399580663224914=true:=by decide +kernel
theorem dm32_2:rowM 32 (λx y=>and (Nat.beq x 9999500000000000000) (Nat.beq y 9999500000000000000)) 1494 2989 9961831645676461828 9961730097493254685=true:=by decide +kernel
theorem dm32_3:rowM 32 (λx y=>and (Nat.beq x 9999500000000000000) (Nat.beq y 9999500000000000000)) 1494 4483 9999500000000000000 9999500000000000000=true:=by decide +kernel
theorem dm32_4:rowM 32 (λx y=>and (Nat.beq x 9999500000000000000) (Nat.beq y 9999500000000000000)) 1494 5977 9999500000000000000 9999500000000000000=true:=by decide +kernel
theorem dm32_5:rowM 32 (λx y=>and (Nat.beq x 9999500000000000000) (Nat.beq y 9999500000000000000)) 1489 7471 9999500000000000000 9999500000000000000=true:=by decide +kernel
theorem dm32:ChM 32 8960 9999500000000000000 9999500000000000000:=((((((ChM.zero).next dc dc dc dc dm32_0).next dc dc dc dc dm32_1).next dc dc dc dc dm32_2).next dc dc dc dc dm32_3).next dc dc dc dc dm32_4).next dc dc dc dc dm32_5
end Go.Proofs.YtmehbpjpbbhohaaGreatDoor
