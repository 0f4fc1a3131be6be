/- Part of the proof of a statement about risks. -/
import Derived.Test.YtmehbpjpbbhohaaGreatDoorDrW
set_option linter.all false
namespace Go.Proofs.YtmehbpjpbbhohaaGreatDoor
open Go Go.Eng Go.RowKit
theorem dw76_0:rowW 76 (λq=>Nat.ble q 84134) 380 1 50000=true:=by decide +kernel
theorem dw76_1:rowW 76 (λq=>Nat.ble q 97724) 380 381 84134=true:=by decide +kernel
theorem dw76_2:rowW 76 (λq=>Nat.ble q 99865) 380 761 97724=true:=by decide +kernel
theorem dw76_3:rowW 76 (λq=>Nat.ble q 99996) 380 1141 99865=true:=by decide +kernel
theorem dw76_4:rowW 76 (λq=>Nat.ble q 99999) 380 1521 99996=true:=by decide +kernel
theorem dw76_5:rowW 76 (λq=>Nat.ble q 99999) 380 1901 99999=true:=by decide +kernel
theorem dw76_6:rowW 76 (λq=>Nat.ble q 99999) 380 2281 99999=true:=by decide +kernel
theorem dw76_7:rowW 76 (λq=>Nat.ble q 99999) 379 2661 99999=true:=by decide +kernel
theorem dw76:ChW 76 (40*76) 99999:=((((((((((((((((ChW.zero).next (b:=1) (r:=50000) (n:=380) (r':=84134) dc dc dc dw76_0)).next (b:=381) (r:=84134) (n:=380) (r':=97724) dc dc dc dw76_1)).next (b:=761) (r:=97724) (n:=380) (r':=99865) dc dc dc dw76_2)).next (b:=1141) (r:=99865) (n:=380) (r':=99996) dc dc dc dw76_3)).next (b:=1521) (r:=99996) (n:=380) (r':=99999) dc dc dc dw76_4)).next (b:=1901) (r:=99999) (n:=380) (r':=99999) dc dc dc dw76_5)).next (b:=2281) (r:=99999) (n:=380) (r':=99999) dc dc dc dw76_6)).next (b:=2661) (r:=99999) (n:=379) (r':=99999) dc dc dc dw76_7)
end Go.Proofs.YtmehbpjpbbhohaaGreatDoor
