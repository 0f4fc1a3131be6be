/- Part of the proof of a statement about risks. -/
import Derived.Test.YtmehbpjpbbhohaaGreatDoorRjiToDmV
set_option linter.all false
namespace Go.Proofs.YtmehbpjpbbhohaaGreatDoor
open Go Go.Eng Go.RowKit
theorem dm19_0:rowM 19 (λx y=>and (Nat.beq x 9772498680518207910) (Nat.beq y 9771685564473148010)) 1330 1 5000000000000000000 0=true:=by decide +kernel
theorem dm19_1:rowM 19 (λx y=>and (Nat.beq x 9999500000000000000) (Nat.beq y 9999500000000000000)) 1330 1331 9772498680518207910 9771685564473148010=true:=by decide +kernel
theorem dm19_2:rowM 19 (λx y=>and (Nat.beq x 9999500000000000000) (Nat.beq y 9999500000000000000)) 1330 2661 9999500000000000000 9999500000000000000=true:=by decide +kernel
theorem dm19_3:rowM 19 (λx y=>and (Nat.beq x 9999500000000000000) (Nat.beq y 9999500000000000000)) 1329 3991 9999500000000000000 9999500000000000000=true:=by decide +kernel
theorem dm19:ChM 19 5320 9999500000000000000 9999500000000000000:=((((ChM.zero).next dc dc dc dc dm19_0).next dc dc dc dc dm19_1).next dc dc dc dc dm19_2).next dc dc dc dc dm19_3
theorem dm6_0:rowM 6 (λx y=>and (Nat.beq x 9999500000000000000) (Nat.beq y 9999500000000000000)) 840 1 5000000000000000000 0=true:=by decide +kernel
theorem dm6_1:rowM 6 (λx y=>and (Nat.beq x 9999500000000000000) (Nat.beq y 9999500000000000000)) 839 841 9999500000000000000 9999500000000000000=true:=by decide +kernel
theorem dm6:ChM 6 1680 9999500000000000000 9999500000000000000:=((ChM.zero).next dc dc dc dc dm6_0).next dc dc dc dc dm6_1
theorem dm3_0:rowM 3 (λx y=>and (Nat.beq x 9999500000000000000) (Nat.beq y 9999500000000000000)) 839 1 5000000000000000000 0=true:=by decide +kernel
theorem dm3:ChM 3 840 9999500000000000000 9999500000000000000:=(ChM.zero).next dc dc dc dc dm3_0
end Go.Proofs.YtmehbpjpbbhohaaGreatDoor
