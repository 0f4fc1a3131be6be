/- Part of the proof of a statement about risks. -/
import Derived.Test.YtmehbpjpbbhohaaGreatDoorRjiToDmV
set_option linter.all false
namespace Go.Proofs.YtmehbpjpbbhohaaGreatDoor
open Go Go.Eng Go.RowKit
theorem dm26_0:rowM 26 (λx y=>and (Nat.beq x 9452007083004420043) (Nat.beq y 9450787100781092196)) 1456 1 5000000000000000000 0=true:=by decide +kernel
theorem dm26_1:rowM 26 (λx y=>and (Nat.beq x 9993128620620841446) (Nat.beq y 9993102375736867933)) 1456 1457 9452007083004420043 9450787100781092196=true:=by decide +kernel
theorem dm26_2:rowM 26 (λx y=>and (Nat.beq x 9999500000000000000) (Nat.beq y 9999500000000000000)) 1456 2913 9993128620620841446 9993102375736867933=true:=by decide +kernel
theorem dm26_3:rowM 26 (λx y=>and (Nat.beq x 9999500000000000000) (Nat.beq y 9999500000000000000)) 1456 4369 9999500000000000000 9999500000000000000=true:=by decide +kernel
theorem dm26_4:rowM 26 (λx y=>and (Nat.beq x 9999500000000000000) (Nat.beq y 9999500000000000000)) 1455 5825 9999500000000000000 9999500000000000000=true:=by decide +kernel
theorem dm26:ChM 26 7280 9999500000000000000 9999500000000000000:=(((((ChM.zero).next dc dc dc dc dm26_0).next dc dc dc dc dm26_1).next dc dc dc dc dm26_2).next dc dc dc dc dm26_3).next dc dc dc dc dm26_4
end Go.Proofs.YtmehbpjpbbhohaaGreatDoor
