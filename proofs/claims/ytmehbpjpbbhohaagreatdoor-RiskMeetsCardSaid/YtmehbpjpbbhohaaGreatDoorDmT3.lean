/- Part of the proof of a statement about risks. -/
import Derived.Test.YtmehbpjpbbhohaaGreatDoorRjiToDmV
set_option linter.all false
namespace Go.Proofs.YtmehbpjpbbhohaaGreatDoor
open Go Go.Eng Go.RowKit
theorem dm18_0:rowM 18 (λx y=>and (Nat.beq x 9772498680518207910) (Nat.beq y 9771640319653226247)) 1260 1 5000000000000000000 0=true:=by decide +kernel
theorem dm18_1:rowM 18 (λx y=>and (Nat.beq x 9999500000000000000) (Nat.beq y 9999500000000000000)) 1260 1261 9772498680518207910 9771640319653226247=true:=by decide +kernel
theorem dm18_2:rowM 18 (λx y=>and (Nat.beq x 9999500000000000000) (Nat.beq y 9999500000000000000)) 1260 2521 9999500000000000000 9999500000000000000=true:=by decide +kernel
theorem dm18_3:rowM 18 (λx y=>and (Nat.beq x 9999500000000000000) (Nat.beq y 9999500000000000000)) 1259 3781 9999500000000000000 9999500000000000000=true:=by decide +kernel
theorem dm18:ChM 18 5040 9999500000000000000 9999500000000000000:=((((ChM.zero).next dc dc dc dc dm18_0).next dc dc dc dc dm18_1).next dc dc dc dc dm18_2).next dc dc dc dc dm18_3
theorem dm7_0:rowM 7 (λx y=>and (Nat.beq x 9999500000000000000) (Nat.beq y 9999500000000000000)) 980 1 5000000000000000000 0=true:=by decide +kernel
theorem dm7_1:rowM 7 (λx y=>and (Nat.beq x 9999500000000000000) (Nat.beq y 9999500000000000000)) 979 981 9999500000000000000 9999500000000000000=true:=by decide +kernel
theorem dm7:ChM 7 1960 9999500000000000000 9999500000000000000:=((ChM.zero).next dc dc dc dc dm7_0).next dc dc dc dc dm7_1
theorem dm2_0:rowM 2 (λx y=>and (Nat.beq x 9999500000000000000) (Nat.beq y 9999500000000000000)) 559 1 5000000000000000000 0=true:=by decide +kernel
theorem dm2:ChM 2 560 9999500000000000000 9999500000000000000:=(ChM.zero).next dc dc dc dc dm2_0
end Go.Proofs.YtmehbpjpbbhohaaGreatDoor
