/- Part of the proof of a statement about risks. -/
import Derived.Test.YtmehbpjpbbhohaaGreatDoorDrW
set_option linter.all false
namespace Go.Proofs.YtmehbpjpbbhohaaGreatDoor
open Go Go.Eng Go.RowKit
theorem dw40_0:rowW 40 (λq=>Nat.ble q 97724) 400 1 50000=true:=by decide +kernel
theorem dw40_1:rowW 40 (λq=>Nat.ble q 99996) 400 401 97724=true:=by decide +kernel
theorem dw40_2:rowW 40 (λq=>Nat.ble q 99999) 400 801 99996=true:=by decide +kernel
theorem dw40_3:rowW 40 (λq=>Nat.ble q 99999) 399 1201 99999=true:=by decide +kernel
theorem dw40:ChW 40 (40*40) 99999:=((((((((ChW.zero).next (b:=1) (r:=50000) (n:=400) (r':=97724) dc dc dc dw40_0)).next (b:=401) (r:=97724) (n:=400) (r':=99996) dc dc dc dw40_1)).next (b:=801) (r:=99996) (n:=400) (r':=99999) dc dc dc dw40_2)).next (b:=1201) (r:=99999) (n:=399) (r':=99999) dc dc dc dw40_3)
theorem dw12_0:rowW 12 (λq=>Nat.ble q 99996) 240 1 50000=true:=by decide +kernel
theorem dw12_1:rowW 12 (λq=>Nat.ble q 99999) 239 241 99996=true:=by decide +kernel
theorem dw12:ChW 12 (40*12) 99999:=((((ChW.zero).next (b:=1) (r:=50000) (n:=240) (r':=99996) dc dc dc dw12_0)).next (b:=241) (r:=99996) (n:=239) (r':=99999) dc dc dc dw12_1)
end Go.Proofs.YtmehbpjpbbhohaaGreatDoor
