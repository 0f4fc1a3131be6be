/- Part of the proof of a statement about risks. -/
import Derived.Test.YtmehbpjpbbhohaaGreatDoorDrW
set_option linter.all false
namespace Go.Proofs.YtmehbpjpbbhohaaGreatDoor
open Go Go.Eng Go.RowKit
theorem dw60_0:rowW 60 (λq=>Nat.ble q 90878) 400 1 50000=true:=by decide +kernel
theorem dw60_1:rowW 60 (λq=>Nat.ble q 99616) 400 401 90878=true:=by decide +kernel
theorem dw60_2:rowW 60 (λq=>Nat.ble q 99996) 400 801 99616=true:=by decide +kernel
theorem dw60_3:rowW 60 (λq=>Nat.ble q 99999) 400 1201 99996=true:=by decide +kernel
theorem dw60_4:rowW 60 (λq=>Nat.ble q 99999) 400 1601 99999=true:=by decide +kernel
theorem dw60_5:rowW 60 (λq=>Nat.ble q 99999) 399 2001 99999=true:=by decide +kernel
theorem dw60:ChW 60 (40*60) 99999:=((((((((((((ChW.zero).next (b:=1) (r:=50000) (n:=400) (r':=90878) dc dc dc dw60_0)).next (b:=401) (r:=90878) (n:=400) (r':=99616) dc dc dc dw60_1)).next (b:=801) (r:=99616) (n:=400) (r':=99996) dc dc dc dw60_2)).next (b:=1201) (r:=99996) (n:=400) (r':=99999) dc dc dc dw60_3)).next (b:=1601) (r:=99999) (n:=400) (r':=99999) dc dc dc dw60_4)).next (b:=2001) (r:=99999) (n:=399) (r':=99999) dc dc dc dw60_5)
end Go.Proofs.YtmehbpjpbbhohaaGreatDoor
