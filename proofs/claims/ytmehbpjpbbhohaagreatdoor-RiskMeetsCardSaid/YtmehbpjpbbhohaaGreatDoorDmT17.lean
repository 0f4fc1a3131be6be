/- Part of the proof of a statement about risks. -/
import Derived.Test.YtmehbpjpbbhohaaGreatDoorRjiToDmV
set_option linter.all false
namespace Go.Proofs.YtmehbpjpbbhohaaGreatDoor
open Go Go.Eng Go.RowKit
theorem dm24_0:rowM 24 (λx y=>and (Nat.beq x 9452007083004420043) (Nat.beq y 9450685338784940091)) 1344 1 5000000000000000000 0=true:=by decide +kernel
theorem dm24_1:rowM 24 (λx y=>and (Nat.beq x 9993128620620841446) (Nat.beq y 9993100184495494990)) 1344 1345 9452007083004420043 9450685338784940091=true:=by decide +kernel
theorem dm24_2:rowM 24 (λx y=>and (Nat.beq x 9999500000000000000) (Nat.beq y 9999500000000000000)) 1344 2689 9993128620620841446 9993100184495494990=true:=by decide +kernel
theorem dm24_3:rowM 24 (λx y=>and (Nat.beq x 9999500000000000000) (Nat.beq y 9999500000000000000)) 1344 4033 9999500000000000000 9999500000000000000=true:=by decide +kernel
theorem dm24_4:rowM 24 (λx y=>and (Nat.beq x 9999500000000000000) (Nat.beq y 9999500000000000000)) 1343 5377 9999500000000000000 9999500000000000000=true:=by decide +kernel
theorem dm24:ChM 24 6720 9999500000000000000 9999500000000000000:=(((((ChM.zero).next dc dc dc dc dm24_0).next dc dc dc dc dm24_1).next dc dc dc dc dm24_2).next dc dc dc dc dm24_3).next dc dc dc dc dm24_4
end Go.Proofs.YtmehbpjpbbhohaaGreatDoor
