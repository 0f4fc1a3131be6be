/- Part of the proof of a statement about risks. -/
import Derived.Test.YtmehbpjpbbhohaaGreatDoorDrW
set_option linter.all false
namespace Go.Proofs.YtmehbpjpbbhohaaGreatDoor
open Go Go.Eng Go.RowKit
theorem dw28_0:rowW 28 (λq=>Nat.ble q 99614) 373 1 50000=true:=by decide +kernel
theorem dw28_1:rowW 28 (λq=>Nat.ble q 99999) 373 374 99614=true:=by decide +kernel
theorem dw28_2:rowW 28 (λq=>Nat.ble q 99999) 373 747 99999=true:=by decide +kernel
theorem dw28:ChW 28 (40*28) 99999:=((((((ChW.zero).next (b:=1) (r:=50000) (n:=373) (r':=99614) dc dc dc dw28_0)).next (b:=374) (r:=99614) (n:=373) (r':=99999) dc dc dc dw28_1)).next (b:=747) (r:=99999) (n:=373) (r':=99999) dc dc dc dw28_2)
theorem dw24_0:rowW 24 (λq=>Nat.ble q 99616) 320 1 50000=true:=by decide +kernel
theorem dw24_1:rowW 24 (λq=>Nat.ble q 99999) 320 321 99616=true:=by decide +kernel
theorem dw24_2:rowW 24 (λq=>Nat.ble q 99999) 319 641 99999=true:=by decide +kernel
theorem dw24:ChW 24 (40*24) 99999:=((((((ChW.zero).next (b:=1) (r:=50000) (n:=320) (r':=99616) dc dc dc dw24_0)).next (b:=321) (r:=99616) (n:=320) (r':=99999) dc dc dc dw24_1)).next (b:=641) (r:=99999) (n:=319) (r':=99999) dc dc dc dw24_2)
end Go.Proofs.YtmehbpjpbbhohaaGreatDoor
