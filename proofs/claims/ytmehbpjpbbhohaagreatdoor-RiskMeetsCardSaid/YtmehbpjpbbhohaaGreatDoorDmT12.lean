/- Part of the proof of a statement about risks. -/
import Derived.Test.YtmehbpjpbbhohaaGreatDoorRjiToDmV
set_option linter.all false
namespace Go.Proofs.YtmehbpjpbbhohaaGreatDoor
open Go Go.Eng Go.RowKit
theorem dm34_0:rowM 34 (λx y=>and (Nat.beq x 9088347128928658758) (Nat.beq y 9086968635591312684)) 1587 1 5000000000000000000 0=true:=by decide +kernel
theorem dm34_1:rowM 34 (λx y=>and (Nat.beq x 9961759989714903152) (Nat.beq y 9961664260869932962)) 1587 1588 9088347128928658758 9086968635591312684=true:=by decide +kernel
theorem dm34_2:rowM 34 (λx y=>and (Nat.beq x 9999500000000000000) (Nat.beq y 9999500000000000000)) 1587 3175 9961759989714903152 9961664260869932962=true:=by decide +kernel
theorem dm34_3:rowM 34 (λx y=>and (Nat.beq x 9999500000000000000) (Nat.beq y 9999500000000000000)) 1587 4762 9999500000000000000 9999500000000000000=true:=by decide +kernel
theorem dm34_4:rowM 34 (λx y=>and (Nat.beq x 9999500000000000000) (Nat.beq y 9999500000000000000)) 1587 6349 9999500000000000000 9999500000000000000=true:=by decide +kernel
theorem dm34_5:rowM 34 (λx y=>and (Nat.beq x 9999500000000000000) (Nat.beq y 9999500000000000000)) 1584 7936 9999500000000000000 9999500000000000000=true:=by decide +kernel
theorem dm34:ChM 34 9520 9999500000000000000 9999500000000000000:=((((((ChM.zero).next dc dc dc dc dm34_0).next dc dc dc dc dm34_1).next dc dc dc dc dm34_2).next dc dc dc dc dm34_3).next dc dc dc dc dm34_4).next dc dc dc dc dm34_5
end Go.Proofs.YtmehbpjpbbhohaaGreatDoor
