/- Part of the proof of a statement about risks. -/
import Derived.Test.YtmehbpjpbbhohaaGreatDoorDrW
set_option linter.all false
namespace Go.Proofs.YtmehbpjpbbhohaaGreatDoor
open Go Go.Eng Go.RowKit
theorem dw32_0:rowW 32 (λq=>Nat.ble q 97724) 320 1 50000=true:=by decide +kernel
theorem dw32_1:rowW 32 (λq=>Nat.ble q 99996) 320 321 97724=true:=by decide +kernel
theorem dw32_2:rowW 32 (λq=>Nat.ble q 99999) 320 641 99996=true:=by decide +kernel
theorem dw32_3:rowW 32 (λq=>Nat.ble q 99999) 319 961 99999=true:=by decide +kernel
theorem dw32:ChW 32 (40*32) 99999:=((((((((ChW.zero).next (b:=1) (r:=50000) (n:=320) (r':=97724) dc dc dc dw32_0)).next (b:=321) (r:=97724) (n:=320) (r':=99996) dc dc dc dw32_1)).next (b:=641) (r:=99996) (n:=320) (r':=99999) dc dc dc dw32_2)).next (b:=961) (r:=99999) (n:=319) (r':=99999) dc dc dc dw32_3)
theorem dw20_0:rowW 20 (λq=>Nat.ble q 99996) 400 1 50000=true:=by decide +kernel
theorem dw20_1:rowW 20 (λq=>Nat.ble q 99999) 399 401 99996=true:=by decide +kernel
theorem dw20:ChW 20 (40*20) 99999:=((((ChW.zero).next (b:=1) (r:=50000) (n:=400) (r':=99996) dc dc dc dw20_0)).next (b:=401) (r:=99996) (n:=399) (r':=99999) dc dc dc dw20_1)
end Go.Proofs.YtmehbpjpbbhohaaGreatDoor
