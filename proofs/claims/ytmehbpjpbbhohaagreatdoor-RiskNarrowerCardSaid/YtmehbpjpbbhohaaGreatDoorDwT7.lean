/- Part of the proof of a statement about risks. -/
import Derived.Test.YtmehbpjpbbhohaaGreatDoorDrW
set_option linter.all false
namespace Go.Proofs.YtmehbpjpbbhohaaGreatDoor
open Go Go.Eng Go.RowKit
theorem dw56_0:rowW 56 (λq=>Nat.ble q 90917) 374 1 50000=true:=by decide +kernel
theorem dw56_1:rowW 56 (λq=>Nat.ble q 99622) 374 375 90917=true:=by decide +kernel
theorem dw56_2:rowW 56 (λq=>Nat.ble q 99996) 374 749 99622=true:=by decide +kernel
theorem dw56_3:rowW 56 (λq=>Nat.ble q 99999) 374 1123 99996=true:=by decide +kernel
theorem dw56_4:rowW 56 (λq=>Nat.ble q 99999) 374 1497 99999=true:=by decide +kernel
theorem dw56_5:rowW 56 (λq=>Nat.ble q 99999) 369 1871 99999=true:=by decide +kernel
theorem dw56:ChW 56 (40*56) 99999:=((((((((((((ChW.zero).next (b:=1) (r:=50000) (n:=374) (r':=90917) dc dc dc dw56_0)).next (b:=375) (r:=90917) (n:=374) (r':=99622) dc dc dc dw56_1)).next (b:=749) (r:=99622) (n:=374) (r':=99996) dc dc dc dw56_2)).next (b:=1123) (r:=99996) (n:=374) (r':=99999) dc dc dc dw56_3)).next (b:=1497) (r:=99999) (n:=374) (r':=99999) dc dc dc dw56_4)).next (b:=1871) (r:=99999) (n:=369) (r':=99999) dc dc dc dw56_5)
end Go.Proofs.YtmehbpjpbbhohaaGreatDoor
