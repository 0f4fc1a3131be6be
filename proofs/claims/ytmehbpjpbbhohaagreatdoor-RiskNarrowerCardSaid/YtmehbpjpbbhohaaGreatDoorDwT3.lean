/- Part of the proof of a statement about risks. -/
import Derived.Test.YtmehbpjpbbhohaaGreatDoorDrW
set_option linter.all false
namespace Go.Proofs.YtmehbpjpbbhohaaGreatDoor
open Go Go.Eng Go.RowKit
theorem dw72_0:rowW 72 (λq=>Nat.ble q 84134) 360 1 50000=true:=by decide +kernel
theorem dw72_1:rowW 72 (λq=>Nat.ble q 97724) 360 361 84134=true:=by decide +kernel
theorem dw72_2:rowW 72 (λq=>Nat.ble q 99865) 360 721 97724=true:=by decide +kernel
theorem dw72_3:rowW 72 (λq=>Nat.ble q 99996) 360 1081 99865=true:=by decide +kernel
theorem dw72_4:rowW 72 (λq=>Nat.ble q 99999) 360 1441 99996=true:=by decide +kernel
theorem dw72_5:rowW 72 (λq=>Nat.ble q 99999) 360 1801 99999=true:=by decide +kernel
theorem dw72_6:rowW 72 (λq=>Nat.ble q 99999) 360 2161 99999=true:=by decide +kernel
theorem dw72_7:rowW 72 (λq=>Nat.ble q 99999) 359 2521 99999=true:=by decide +kernel
theorem dw72:ChW 72 (40*72) 99999:=((((((((((((((((ChW.zero).next (b:=1) (r:=50000) (n:=360) (r':=84134) dc dc dc dw72_0)).next (b:=361) (r:=84134) (n:=360) (r':=97724) dc dc dc dw72_1)).next (b:=721) (r:=97724) (n:=360) (r':=99865) dc dc dc dw72_2)).next (b:=1081) (r:=99865) (n:=360) (r':=99996) dc dc dc dw72_3)).next (b:=1441) (r:=99996) (n:=360) (r':=99999) dc dc dc dw72_4)).next (b:=1801) (r:=99999) (n:=360) (r':=99999) dc dc dc dw72_5)).next (b:=2161) (r:=99999) (n:=360) (r':=99999) dc dc dc dw72_6)).next (b:=2521) (r:=99999) (n:=359) (r':=99999) dc dc dc dw72_7)
end Go.Proofs.YtmehbpjpbbhohaaGreatDoor
