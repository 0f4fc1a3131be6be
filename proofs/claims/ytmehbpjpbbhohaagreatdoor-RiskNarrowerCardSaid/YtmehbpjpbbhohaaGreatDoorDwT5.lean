/- Part of the proof of a statement about risks. -/
import Derived.Test.YtmehbpjpbbhohaaGreatDoorDrW
set_option linter.all false
namespace Go.Proofs.YtmehbpjpbbhohaaGreatDoor
open Go Go.Eng Go.RowKit
theorem dw64_0:rowW 64 (λq=>Nat.ble q 87363) 366 1 50000=true:=by decide +kernel
theorem dw64_1:rowW 64 (λq=>Nat.ble q 98891) 366 367 87363=true:=by decide +kernel
theorem dw64_2:rowW 64 (λq=>Nat.ble q 99969) 366 733 98891=true:=by decide +kernel
theorem dw64_3:rowW 64 (λq=>Nat.ble q 99999) 366 1099 99969=true:=by decide +kernel
theorem dw64_4:rowW 64 (λq=>Nat.ble q 99999) 366 1465 99999=true:=by decide +kernel
theorem dw64_5:rowW 64 (λq=>Nat.ble q 99999) 366 1831 99999=true:=by decide +kernel
theorem dw64_6:rowW 64 (λq=>Nat.ble q 99999) 363 2197 99999=true:=by decide +kernel
theorem dw64:ChW 64 (40*64) 99999:=((((((((((((((ChW.zero).next (b:=1) (r:=50000) (n:=366) (r':=87363) dc dc dc dw64_0)).next (b:=367) (r:=87363) (n:=366) (r':=98891) dc dc dc dw64_1)).next (b:=733) (r:=98891) (n:=366) (r':=99969) dc dc dc dw64_2)).next (b:=1099) (r:=99969) (n:=366) (r':=99999) dc dc dc dw64_3)).next (b:=1465) (r:=99999) (n:=366) (r':=99999) dc dc dc dw64_4)).next (b:=1831) (r:=99999) (n:=366) (r':=99999) dc dc dc dw64_5)).next (b:=2197) (r:=99999) (n:=363) (r':=99999) dc dc dc dw64_6)
end Go.Proofs.YtmehbpjpbbhohaaGreatDoor
