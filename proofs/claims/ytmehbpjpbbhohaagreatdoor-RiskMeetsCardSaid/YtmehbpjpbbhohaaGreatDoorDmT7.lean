/- Part of the proof of a statement about risks. -/
import Derived.Test.YtmehbpjpbbhohaaGreatDoorRjiToDmV
set_option linter.all false
namespace Go.Proofs.YtmehbpjpbbhohaaGreatDoor
open Go Go.Eng Go.RowKit
theorem dm14_0:rowM 14 (λx y=>and (Nat.beq x 9961773647758784798) (Nat.beq y 9961540865337531649)) 1307 1 5000000000000000000 0=true:=by decide +kernel
theorem dm14_1:rowM 14 (λx y=>and (Nat.beq x 9999500000000000000) (Nat.beq y 9999500000000000000)) 1307 1308 9961773647758784798 9961540865337531649=true:=by decide +kernel
theorem dm14_2:rowM 14 (λx y=>and (Nat.beq x 9999500000000000000) (Nat.beq y 9999500000000000000)) 1305 2615 9999500000000000000 9999500000000000000=true:=by decide +kernel
theorem dm14:ChM 14 3920 9999500000000000000 9999500000000000000:=(((ChM.zero).next dc dc dc dc dm14_0).next dc dc dc dc dm14_1).next dc dc dc dc dm14_2
theorem dm11_0:rowM 11 (λx y=>and (Nat.beq x 9999500000000000000) (Nat.beq y 9999500000000000000)) 1540 1 5000000000000000000 0=true:=by decide +kernel
theorem dm11_1:rowM 11 (λx y=>and (Nat.beq x 9999500000000000000) (Nat.beq y 9999500000000000000)) 1539 1541 9999500000000000000 9999500000000000000=true:=by decide +kernel
theorem dm11:ChM 11 3080 9999500000000000000 9999500000000000000:=((ChM.zero).next dc dc dc dc dm11_0).next dc dc dc dc dm11_1
end Go.Proofs.YtmehbpjpbbhohaaGreatDoor
