/- Part of the proof of a statement about risks. -/
import Derived.Test.YtmehbpjpbbhohaaGreatDoorRjiToDmV
set_option linter.all false
namespace Go.Proofs.YtmehbpjpbbhohaaGreatDoor
open Go Go.Eng Go.RowKit
theorem dm38_0:rowM 38 (λx y=>and (Nat.beq x 8734510455264422204) (Nat.beq y 8732948659992160078)) 1520 1 5000000000000000000 0=true:=by decide +kernel
theorem dm38_1:rowM 38 (λx y=>and (Nat.beq x 9888645105203836005) (Nat.beq y 9888424838892915714)) 1520 1521 8734510455264422204 8732948659992160078=true:=by decide +kernel
theorem dm38_2:rowM 38 (λx y=>and (Nat.beq x 9996966165771819605) (Nat.beq y 9996957751233220539)) 1520 3041 9888645105203836005 9888424838892915714=true:=by decide +kernel
theorem dm38_3:rowM 38 (λx y=>and (Nat.beq x 9999500000000000000) (Nat.beq y 9999500000000000000)) 1520 4561 9996966165771819605 9996957751233220539=true:=by decide +kernel
theorem dm38_4:rowM 38 (λx y=>and (Nat.beq x 9999500000000000000) (Nat.beq y 9999500000000000000)) 1520 6081 9999500000000000000 9999500000000000000=true:=by decide +kernel
theorem dm38_5:rowM 38 (λx y=>and (Nat.beq x 9999500000000000000) (Nat.beq y 9999500000000000000)) 1520 7601 9999500000000000000 9999500000000000000=true:=by decide +kernel
theorem dm38_6:rowM 38 (λx y=>and (Nat.beq x 9999500000000000000) (Nat.beq y 9999500000000000000)) 1519 9121 9999500000000000000 9999500000000000000=true:=by decide +kernel
theorem dm38:ChM 38 10640 9999500000000000000 9999500000000000000:=(((((((ChM.zero).next dc dc dc dc dm38_0).next dc dc dc dc dm38_1).next dc dc dc dc dm38_2).next dc dc dc dc dm38_3).next dc dc dc dc dm38_4).next dc dc dc dc dm38_5).next dc dc dc dc dm38_6
end Go.Proofs.YtmehbpjpbbhohaaGreatDoor
