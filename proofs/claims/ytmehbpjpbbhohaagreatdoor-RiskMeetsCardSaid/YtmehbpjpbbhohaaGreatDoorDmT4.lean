/- Part of the proof of a statement about risks. -/
import Derived.Test.YtmehbpjpbbhohaaGreatDoorRjiToDmV
set_option linter.all false
namespace Go.Proofs.YtmehbpjpbbhohaaGreatDoor
open Go Go.Eng Go.RowKit
theorem dm17_0:rowM 17 (λx y=>and (Nat.beq x 9961759989714903152) (Nat.beq y 9961568317288602909)) 1587 1 5000000000000000000 0=true:=by decide +kernel
theorem dm17_1:rowM 17 (λx y=>and (Nat.beq x 9999500000000000000) (Nat.beq y 9999500000000000000)) 1587 1588 9961759989714903152 9961568317288602909=true:=by decide +kernel
theorem dm17_2:rowM 17 (λx y=>and (Nat.beq x 9999500000000000000) (Nat.beq y 9999500000000000000)) 1585 3175 9999500000000000000 9999500000000000000=true:=by decide +kernel
theorem dm17:ChM 17 4760 9999500000000000000 9999500000000000000:=(((ChM.zero).next dc dc dc dc dm17_0).next dc dc dc dc dm17_1).next dc dc dc dc dm17_2
theorem dm8_0:rowM 8 (λx y=>and (Nat.beq x 9999500000000000000) (Nat.beq y 9999500000000000000)) 1120 1 5000000000000000000 0=true:=by decide +kernel
theorem dm8_1:rowM 8 (λx y=>and (Nat.beq x 9999500000000000000) (Nat.beq y 9999500000000000000)) 1119 1121 9999500000000000000 9999500000000000000=true:=by decide +kernel
theorem dm8:ChM 8 2240 9999500000000000000 9999500000000000000:=((ChM.zero).next dc dc dc dc dm8_0).next dc dc dc dc dm8_1
theorem dm1_0:rowM 1 (λx y=>and (Nat.beq x 9999500000000000000) (Nat.beq y 9999500000000000000)) 279 1 5000000000000000000 0=true:=by decide +kernel
theorem dm1:ChM 1 280 9999500000000000000 9999500000000000000:=(ChM.zero).next dc dc dc dc dm1_0
end Go.Proofs.YtmehbpjpbbhohaaGreatDoor
