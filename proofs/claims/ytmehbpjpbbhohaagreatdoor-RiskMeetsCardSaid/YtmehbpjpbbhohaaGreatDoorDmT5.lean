/- Part of the proof of a statement about risks. -/
import Derived.Test.YtmehbpjpbbhohaaGreatDoorRjiToDmV
set_option linter.all false
namespace Go.Proofs.YtmehbpjpbbhohaaGreatDoor
open Go Go.Eng Go.RowKit
theorem dm16_0:rowM 16 (λx y=>and (Nat.beq x 9961628307213562648) (Nat.beq y 9961423998380603785)) 1493 1 5000000000000000000 0=true:=by decide +kernel
theorem dm16_1:rowM 16 (λx y=>and (Nat.beq x 9999500000000000000) (Nat.beq y 9999500000000000000)) 1493 1494 9961628307213562648 9961423998380603785=true:=by decide +kernel
theorem dm16_2:rowM 16 (λx y=>and (Nat.beq x 9999500000000000000) (Nat.beq y 9999500000000000000)) 1493 2987 9999500000000000000 9999500000000000000=true:=by decide +kernel
theorem dm16:ChM 16 4480 9999500000000000000 9999500000000000000:=(((ChM.zero).next dc dc dc dc dm16_0).next dc dc dc dc dm16_1).next dc dc dc dc dm16_2
theorem dm9_0:rowM 9 (λx y=>and (Nat.beq x 9999500000000000000) (Nat.beq y 9999500000000000000)) 1260 1 5000000000000000000 0=true:=by decide +kernel
theorem dm9_1:rowM 9 (λx y=>and (Nat.beq x 9999500000000000000) (Nat.beq y 9999500000000000000)) 1259 1261 9999500000000000000 9999500000000000000=true:=by decide +kernel
theorem dm9:ChM 9 2520 9999500000000000000 9999500000000000000:=((ChM.zero).next dc dc dc dc dm9_0).next dc dc dc dc dm9_1
end Go.Proofs.YtmehbpjpbbhohaaGreatDoor
