/- Part of the proof of a statement about risks. -/
import Derived.Test.YtmehbpjpbbhohaaGreatDoorDrW
set_option linter.all false
namespace Go.Proofs.YtmehbpjpbbhohaaGreatDoor
open Go Go.Eng Go.RowKit
theorem dw52_0:rowW 52 (λq=>Nat.ble q 90899) 347 1 50000=true:=by decide +kernel
theorem dw52_1:rowW 52 (λq=>Nat.ble q 99619) 347 348 90899=true:=by decide +kernel
theorem dw52_2:rowW 52 (λq=>Nat.ble q 99996) 347 695 99619=true:=by decide +kernel
theorem dw52_3:rowW 52 (λq=>Nat.ble q 99999) 347 1042 99996=true:=by decide +kernel
theorem dw52_4:rowW 52 (λq=>Nat.ble q 99999) 347 1389 99999=true:=by decide +kernel
theorem dw52_5:rowW 52 (λq=>Nat.ble q 99999) 344 1736 99999=true:=by decide +kernel
theorem dw52:ChW 52 (40*52) 99999:=((((((((((((ChW.zero).next (b:=1) (r:=50000) (n:=347) (r':=90899) dc dc dc dw52_0)).next (b:=348) (r:=90899) (n:=347) (r':=99619) dc dc dc dw52_1)).next (b:=695) (r:=99619) (n:=347) (r':=99996) dc dc dc dw52_2)).next (b:=1042) (r:=99996) (n:=347) (r':=99999) dc dc dc dw52_3)).next (b:=1389) (r:=99999) (n:=347) (r':=99999) dc dc dc dw52_4)).next (b:=1736) (r:=99999) (n:=344) (r':=99999) dc dc dc dw52_5)
end Go.Proofs.YtmehbpjpbbhohaaGreatDoor
