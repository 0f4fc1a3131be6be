/- Part of the proof of a statement about risks. -/
import Derived.Test.YtmehbpjpbbhohaaGreatDoorRjiToDmV
set_option linter.all false
namespace Go.Proofs.YtmehbpjpbbhohaaGreatDoor
open Go Go.Eng Go.RowKit
theorem dm20_0:rowM 20 (λx y=>and (Nat.beq x 9772498680518207910) (Nat.beq y 9771726278352903901)) 1400 1 5000000000000000000 0=true:=by decide +kernel
theorem dm20_1:rowM 20 (λx y=>and (Nat.beq x 9999500000000000000) (Nat.beq y 9999500000000000000)) 1400 1401 9772498680518207910 9771726278352903901=true:=by decide +kernel
theorem dm20_2:rowM 20 (λx y=>and (Nat.beq x 9999500000000000000) (Nat.beq y 9999500000000000000)) 1400 2801 9999500000000000000 9999500000000000000=true:=by decide +kernel
theorem dm20_3:rowM 20 (λx y=>and (Nat.beq x 9999500000000000000) (Nat.beq y 9999500000000000000)) 1399 4201 9999500000000000000 9999500000000000000=true:=by decide +kernel
theorem dm20:ChM 20 5600 9999500000000000000 9999500000000000000:=((((ChM.zero).next dc dc dc dc dm20_0).next dc dc dc dc dm20_1).next dc dc dc dc dm20_2).next dc dc dc dc dm20_3
theorem dm5_0:rowM 5 (λx y=>and (Nat.beq x 9999500000000000000) (Nat.beq y 9999500000000000000)) 1399 1 5000000000000000000 0=true:=by decide +kernel
theorem dm5:ChM 5 1400 9999500000000000000 9999500000000000000:=(ChM.zero).next dc dc dc dc dm5_0
theorem dm4_0:rowM 4 (λx y=>and (Nat.beq x 9999500000000000000) (Nat.beq y 9999500000000000000)) 1119 1 5000000000000000000 0=true:=by decide +kernel
theorem dm4:ChM 4 1120 9999500000000000000 9999500000000000000:=(ChM.zero).next dc dc dc dc dm4_0
end Go.Proofs.YtmehbpjpbbhohaaGreatDoor
