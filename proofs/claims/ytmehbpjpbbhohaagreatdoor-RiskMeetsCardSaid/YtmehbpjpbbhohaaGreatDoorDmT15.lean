/- Part of the proof of a statement about risks. -/
import Derived.Test.YtmehbpjpbbhohaaGreatDoorRjiToDmV
set_option linter.all false
namespace Go.Proofs.YtmehbpjpbbhohaaGreatDoor
open Go Go.Eng Go.RowKit
theorem dm28_0:rowM 28 (λx y=>and (Nat.beq x 9452007083004420043) (Nat.beq y 9450874313490902829)) 1568 1 5000000000000000000 0=true:=by decide +kernel
theorem dm28_1:rowM 28 (λx y=>and (Nat.beq x 9993128620620841446) (Nat.beq y 9993104253432926203)) 1568 1569 9452007083004420043 9450874313490902829=true:=by decide +kernel
theorem dm28_2:rowM 28 (λx y=>and (Nat.beq x 9999500000000000000) (Nat.beq y 9999500000000000000)) 1568 3137 9993128620620841446 9993104253432926203=true:=by decide +kernel
theorem dm28_3:rowM 28 (λx y=>and (Nat.beq x 9999500000000000000) (Nat.beq y 9999500000000000000)) 1568 4705 9999500000000000000 9999500000000000000=true:=by decide +kernel
theorem dm28_4:rowM 28 (λx y=>and (Nat.beq x 9999500000000000000) (Nat.beq y 9999500000000000000)) 1567 6273 9999500000000000000 9999500000000000000=true:=by decide +kernel
theorem dm28:ChM 28 7840 9999500000000000000 9999500000000000000:=(((((ChM.zero).next dc dc dc dc dm28_0).next dc dc dc dc dm28_1).next dc dc dc dc dm28_2).next dc dc dc dc dm28_3).next dc dc dc dc dm28_4
end Go.Proofs.YtmehbpjpbbhohaaGreatDoor
