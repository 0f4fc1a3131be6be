/- Part of the proof of a statement about risks. -/
import Derived.Test.YtmehbpjpbbhohaaGreatDoorDrW
set_option linter.all false
namespace Go.Proofs.YtmehbpjpbbhohaaGreatDoor
open Go Go.Eng Go.RowKit
theorem dw36_0:rowW 36 (λq=>Nat.ble q 97724) 360 1 50000=true:=by decide +kernel
theorem dw36_1:rowW 36 (λq=>Nat.ble q 99996) 360 361 97724=true:=by decide +kernel
theorem dw36_2:rowW 36 (λq=>Nat.ble q 99999) 360 721 99996=true:=by decide +kernel
theorem dw36_3:rowW 36 (λq=>Nat.ble q 99999) 359 1081 99999=true:=by decide +kernel
theorem dw36:ChW 36 (40*36) 99999:=((((((((ChW.zero).next (b:=1) (r:=50000) (n:=360) (r':=97724) dc dc dc dw36_0)).next (b:=361) (r:=97724) (n:=360) (r':=99996) dc dc dc dw36_1)).next (b:=721) (r:=99996) (n:=360) (r':=99999) dc dc dc dw36_2)).next (b:=1081) (r:=99999) (n:=359) (r':=99999) dc dc dc dw36_3)
theorem dw16_0:rowW 16 (λq=>Nat.ble q 99996) 320 1 50000=true:=by decide +kernel
theorem dw16_1:rowW 16 (λq=>Nat.ble q 99999) 319 321 99996=true:=by decide +kernel
theorem dw16:ChW 16 (40*16) 99999:=((((ChW.zero).next (b:=1) (r:=50000) (n:=320) (r':=99996) dc dc dc dw16_0)).next (b:=321) (r:=99996) (n:=319) (r':=99999) dc dc dc dw16_1)
end Go.Proofs.YtmehbpjpbbhohaaGreatDoor
