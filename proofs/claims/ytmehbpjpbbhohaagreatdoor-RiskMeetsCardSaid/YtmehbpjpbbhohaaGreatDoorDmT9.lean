/- Part of the proof of a statement about risks. -/
import Derived.Test.YtmehbpjpbbhohaaGreatDoorRjiToDmV
set_option linter.all false
namespace Go.Proofs.YtmehbpjpbbhohaaGreatDoor
open Go Go.Eng Go.RowKit
theorem dm40_0:rowM 40 (λx y=>and (Nat.beq x 8734510455264422204) (Nat.beq y 8733026781619620218)) 1600 1 5000000000000000000 0=true:=by decide +kernel
theorem dm40_1:rowM 40 (λx y=>and (Nat.beq x 9888645105203836005) (Nat.beq y 9888435861199317489)) 1600 1601 8734510455264422204 8733026781619620218=true:=by decide +kernel
theorem dm40_2:rowM 40 (λx y=>and (Nat.beq x 9996966165771819605) (Nat.beq y 9996958172475452027)) 1600 3201 9888645105203836005 9888435861199317489=true:=by decide +kernel
theorem dm40_3:rowM 40 (λx y=>and (Nat.beq x 9999500000000000000) (Nat.beq y 9999500000000000000)) 1600 4801 9996966165771819605 9996958172475452027=true:=by decide +kernel
theorem dm40_4:rowM 40 (λx y=>and (Nat.beq x 9999500000000000000) (Nat.beq y 9999500000000000000)) 1600 6401 9999500000000000000 9999500000000000000=true:=by decide +kernel
theorem dm40_5:rowM 40 (λx y=>and (Nat.beq x 9999500000000000000) (Nat.beq y 9999500000000000000)) 1600 8001 9999500000000000000 9999500000000000000=true:=by decide +kernel
theorem dm40_6:rowM 40 (λx y=>and (Nat.beq x 9999500000000000000) (Nat.beq y 9999500000000000000)) 1599 9601 9999500000000000000 9999500000000000000=true:=by decide +kernel
theorem dm40:ChM 40 11200 9999500000000000000 9999500000000000000:=(((((((ChM.zero).next dc dc dc dc dm40_0).next dc dc dc dc dm40_1).next dc dc dc dc dm40_2).next dc dc dc dc dm40_3).next dc dc dc dc dm40_4).next dc dc dc dc dm40_5).next dc dc dc dc dm40_6
end Go.Proofs.YtmehbpjpbbhohaaGreatDoor
