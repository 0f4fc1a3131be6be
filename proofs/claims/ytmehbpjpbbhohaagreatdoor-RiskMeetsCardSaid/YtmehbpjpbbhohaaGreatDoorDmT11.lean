/- Part of the proof of a statement about risks. -/
import Derived.Test.YtmehbpjpbbhohaaGreatDoorRjiToDmV
set_option linter.all false
namespace Go.Proofs.YtmehbpjpbbhohaaGreatDoor
open Go Go.Eng Go.RowKit
theorem dm36_0:rowM 36 (λx y=>and (Nat.beq x 8734510455264422204) (Nat.beq y 8732861854249785032)) 1440 1 5000000000000000000 0=true:=by decide +kernel
theorem dm36_1:rowM 36 (λx y=>and (Nat.beq x 9888645105203836005) (Nat.beq y 9888412590775277835)) 1440 1441 8734510455264422204 8732861854249785032=true:=by decide +kernel
theorem dm36_2:rowM 36 (λx y=>and (Nat.beq x 9996966165771819605) (Nat.beq y 9996957283122626404)) 1440 2881 9888645105203836005 9888412590775277835=true:=by decide +kernel
theorem dm36_3:rowM 36 (λx y=>and (Nat.beq x 9999500000000000000) (Nat.beq y 9999500000000000000)) 1440 4321 9996966165771819605 9996957283122626404=true:=by decide +kernel
theorem dm36_4:rowM 36 (λx y=>and (Nat.beq x 9999500000000000000) (Nat.beq y 9999500000000000000)) 1440 5761 9999500000000000000 9999500000000000000=true:=by decide +kernel
theorem dm36_5:rowM 36 (λx y=>and (Nat.beq x 9999500000000000000) (Nat.beq y 9999500000000000000)) 1440 7201 9999500000000000000 9999500000000000000=true:=by decide +kernel
theorem dm36_6:rowM 36 (λx y=>and (Nat.beq x 9999500000000000000) (Nat.beq y 9999500000000000000)) 1439 8641 9999500000000000000 9999500000000000000=true:=by decide +kernel
theorem dm36:ChM 36 10080 9999500000000000000 9999500000000000000:=(((((((ChM.zero).next dc dc dc dc dm36_0).next dc dc dc dc dm36_1).next dc dc dc dc dm36_2).next dc dc dc dc dm36_3).next dc dc dc dc dm36_4).next dc dc dc dc dm36_5).next dc dc dc dc dm36_6
end Go.Proofs.YtmehbpjpbbhohaaGreatDoor
