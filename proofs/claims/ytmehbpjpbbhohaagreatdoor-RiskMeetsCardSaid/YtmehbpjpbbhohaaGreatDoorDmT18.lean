/- Part of the proof of a statement about risks. -/
import Derived.Test.YtmehbpjpbbhohaaGreatDoorRjiToDmV
set_option linter.all false
namespace Go.Proofs.YtmehbpjpbbhohaaGreatDoor
open Go Go.Eng Go.RowKit
theorem dm22_0:rowM 22 (λx y=>and (Nat.beq x 9772498680518207910) (Nat.beq y 9771796587918303692)) 1540 1 5000000000000000000 0=true:=by decide +kernel
theorem dm22_1:rowM 22 (λx y=>and (Nat.beq x 9999500000000000000) (Nat.beq y 9999500000000000000)) 1540 1541 9772498680518207910 9771796587918303692=true:=by decide +kernel
theorem dm22_2:rowM 22 (λx y=>and (Nat.beq x 9999500000000000000) (Nat.beq y 9999500000000000000)) 1540 3081 9999500000000000000 9999500000000000000=true:=by decide +kernel
theorem dm22_3:rowM 22 (λx y=>and (Nat.beq x 9999500000000000000) (Nat.beq y 9999500000000000000)) 1539 4621 9999500000000000000 9999500000000000000=true:=by decide +kernel
theorem dm22:ChM 22 6160 9999500000000000000 9999500000000000000:=((((ChM.zero).next dc dc dc dc dm22_0).next dc dc dc dc dm22_1).next dc dc dc dc dm22_2).next dc dc dc dc dm22_3
end Go.Proofs.YtmehbpjpbbhohaaGreatDoor
