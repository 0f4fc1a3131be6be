/- Part of the proof of a statement about risks. -/
import Derived.Test.YtmehbpjpbbhohaaGreatDoorRjiToDmV
set_option linter.all false
namespace Go.Proofs.YtmehbpjpbbhohaaGreatDoor
open Go Go.Eng Go.RowKit
theorem dm30_0:rowM 30 (λx y=>and (Nat.beq x 9087887802741321290) (Nat.beq y 9086324810100072962)) 1400 1 5000000000000000000 0=true:=by decide +kernel
theorem dm30_1:rowM 30 (λx y=>and (Nat.beq x 9961696194324102599) (Nat.beq y 9961587523203630503)) 1400 1401 9087887802741321290 9086324810100072962=true:=by decide +kernel
theorem dm30_2:rowM 30 (λx y=>and (Nat.beq x 9999500000000000000) (Nat.beq y 9999500000000000000)) 1400 2801 9961696194324102599 9961587523203630503=true:=by decide +kernel
theorem dm30_3:rowM 30 (λx y=>and (Nat.beq x 9999500000000000000) (Nat.beq y 9999500000000000000)) 1400 4201 9999500000000000000 9999500000000000000=true:=by decide +kernel
theorem dm30_4:rowM 30 (λx y=>and (Nat.beq x 9999500000000000000) (Nat.beq y 9999500000000000000)) 1400 5601 9999500000000000000 9999500000000000000=true:=by decide +kernel
theorem dm30_5:rowM 30 (λx y=>and (Nat.beq x 9999500000000000000) (Nat.beq y 9999500000000000000)) 1399 7001 9999500000000000000 9999500000000000000=true:=by decide +kernel
theorem dm30:ChM 30 8400 9999500000000000000 9999500000000000000:=((((((ChM.zero).next dc dc dc dc dm30_0).next dc dc dc dc dm30_1).next dc dc dc dc dm30_2).next dc dc dc dc dm30_3).next dc dc dc dc dm30_4).next dc dc dc dc dm30_5
end Go.Proofs.YtmehbpjpbbhohaaGreatDoor
