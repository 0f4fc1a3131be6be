/- Part of the proof of a statement about risks. -/
import Derived.Test.YtmehbpjpbbhohaaGreatDoorRjiToDmV
set_option linter.all false
namespace Go.Proofs.YtmehbpjpbbhohaaGreatDoor
open Go Go.Eng Go.RowKit
theorem dm15_0:rowM 15 (λx y=>and (Nat.beq x 9961696194324102599) (Nat.beq y 9961478575841090039)) 1400 1 5000000000000000000 0=true:=by decide +kernel
theorem dm15_1:rowM 15 (λx y=>and (Nat.beq x 9999500000000000000) (Nat.beq y 9999500000000000000)) 1400 1401 9961696194324102599 9961478575841090039=true:=by decide +kernel
theorem dm15_2:rowM 15 (λx y=>and (Nat.beq x 9999500000000000000) (Nat.beq y 9999500000000000000)) 1399 2801 9999500000000000000 9999500000000000000=true:=by decide +kernel
theorem dm15:ChM 15 4200 9999500000000000000 9999500000000000000:=(((ChM.zero).next dc dc dc dc dm15_0).next dc dc dc dc dm15_1).next dc dc dc dc dm15_2
theorem dm10_0:rowM 10 (λx y=>and (Nat.beq x 9999500000000000000) (Nat.beq y 9999500000000000000)) 1400 1 5000000000000000000 0=true:=by decide +kernel
theorem dm10_1:rowM 10 (λx y=>and (Nat.beq x 9999500000000000000) (Nat.beq y 9999500000000000000)) 1399 1401 9999500000000000000 9999500000000000000=true:=by decide +kernel
theorem dm10:ChM 10 2800 9999500000000000000 9999500000000000000:=((ChM.zero).next dc dc dc dc dm10_0).next dc dc dc dc dm10_1
end Go.Proofs.YtmehbpjpbbhohaaGreatDoor
