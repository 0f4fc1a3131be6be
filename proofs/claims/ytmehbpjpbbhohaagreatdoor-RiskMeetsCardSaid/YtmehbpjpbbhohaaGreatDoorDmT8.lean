/- Part of the proof of a statement about risks. -/
import Derived.Test.YtmehbpjpbbhohaaGreatDoorRjiToDmV
set_option linter.all false
namespace Go.Proofs.YtmehbpjpbbhohaaGreatDoor
open Go Go.Eng Go.RowKit
theorem dm13_0:rowM 13 (λx y=>and (Nat.beq x 9961612625651094116) (Nat.beq y 9961360938286929735)) 1213 1 5000000000000000000 0=true:=by decide +kernel
theorem dm13_1:rowM 13 (λx y=>and (Nat.beq x 9999500000000000000) (Nat.beq y 9999500000000000000)) 1213 1214 9961612625651094116 9961360938286929735=true:=by decide +kernel
theorem dm13_2:rowM 13 (λx y=>and (Nat.beq x 9999500000000000000) (Nat.beq y 9999500000000000000)) 1213 2427 9999500000000000000 9999500000000000000=true:=by decide +kernel
theorem dm13:ChM 13 3640 9999500000000000000 9999500000000000000:=(((ChM.zero).next dc dc dc dc dm13_0).next dc dc dc dc dm13_1).next dc dc dc dc dm13_2
theorem dm12_0:rowM 12 (λx y=>and (Nat.beq x 9961696194324102599) (Nat.beq y 9961423998380603785)) 1120 1 5000000000000000000 0=true:=by decide +kernel
theorem dm12_1:rowM 12 (λx y=>and (Nat.beq x 9999500000000000000) (Nat.beq y 9999500000000000000)) 1120 1121 9961696194324102599 9961423998380603785=true:=by decide +kernel
theorem dm12_2:rowM 12 (λx y=>and (Nat.beq x 9999500000000000000) (Nat.beq y 9999500000000000000)) 1119 2241 9999500000000000000 9999500000000000000=true:=by decide +kernel
theorem dm12:ChM 12 3360 9999500000000000000 9999500000000000000:=(((ChM.zero).next dc dc dc dc dm12_0).next dc dc dc dc dm12_1).next dc dc dc dc dm12_2
end Go.Proofs.YtmehbpjpbbhohaaGreatDoor
