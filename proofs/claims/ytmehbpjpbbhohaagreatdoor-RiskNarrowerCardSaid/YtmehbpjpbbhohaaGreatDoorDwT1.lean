/- Part of the proof of a statement about risks. -/
import Derived.Test.YtmehbpjpbbhohaaGreatDoorDrW
set_option linter.all false
namespace Go.Proofs.YtmehbpjpbbhohaaGreatDoor
open Go Go.Eng Go.RowKit
theorem dw80_0:rowW 80 (λq=>Nat.ble q 84134) 400 1 50000=true:=by decide +kernel
theorem dw80_1:rowW 80 (λq=>Nat.ble q 97724) 400 401 84134=true:=by decide +kernel
theorem dw80_2:rowW 80 (λq=>Nat.ble q 99865) 400 801 97724=true:=by decide +kernel
theorem dw80_3:rowW 80 (λq=>Nat.ble q 99996) 400 1201 99865=true:=by decide +kernel
theorem dw80_4:rowW 80 (λq=>Nat.ble q 99999) 400 1601 99996=true:=by decide +kernel
theorem dw80_5:rowW 80 (λq=>Nat.ble q 99999) 400 2001 99999=true:=by decide +kernel
theorem dw80_6:rowW 80 (λq=>Nat.ble q 99999) 400 2401 99999=true:=by decide +kernel
theorem dw80_7:rowW 80 (λq=>Nat.ble q 99999) 399 2801 99999=true:=by decide +kernel
theorem dw80:ChW 80 (40*80) 99999:=((((((((((((((((ChW.zero).next (b:=1) (r:=50000) (n:=400) (r':=84134) dc dc dc dw80_0)).next (b:=401) (r:=84134) (n:=400) (r':=97724) dc dc dc dw80_1)).next (b:=801) (r:=97724) (n:=400) (r':=99865) dc dc dc dw80_2)).next (b:=1201) (r:=99865) (n:=400) (r':=99996) dc dc dc dw80_3)).next (b:=1601) (r:=99996) (n:=400) (r':=99999) dc dc dc dw80_4)).next (b:=2001) (r:=99999) (n:=400) (r':=99999) dc dc dc dw80_5)).next (b:=2401) (r:=99999) (n:=400) (r':=99999) dc dc dc dw80_6)).next (b:=2801) (r:=99999) (n:=399) (r':=99999) dc dc dc dw80_7)
end Go.Proofs.YtmehbpjpbbhohaaGreatDoor
