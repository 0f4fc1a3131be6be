/- Part of the proof of a statement about risks. -/
import Derived.Test.YtmehbpjpbbhohaaGreatDoorDrW
set_option linter.all false
namespace Go.Proofs.YtmehbpjpbbhohaaGreatDoor
open Go Go.Eng Go.RowKit
theorem dw48_0:rowW 48 (λq=>Nat.ble q 94520) 384 1 50000=true:=by decide +kernel
theorem dw48_1:rowW 48 (λq=>Nat.ble q 99931) 384 385 94520=true:=by decide +kernel
theorem dw48_2:rowW 48 (λq=>Nat.ble q 99999) 384 769 99931=true:=by decide +kernel
theorem dw48_3:rowW 48 (λq=>Nat.ble q 99999) 384 1153 99999=true:=by decide +kernel
theorem dw48_4:rowW 48 (λq=>Nat.ble q 99999) 383 1537 99999=true:=by decide +kernel
theorem dw48:ChW 48 (40*48) 99999:=((((((((((ChW.zero).next (b:=1) (r:=50000) (n:=384) (r':=94520) dc dc dc dw48_0)).next (b:=385) (r:=94520) (n:=384) (r':=99931) dc dc dc dw48_1)).next (b:=769) (r:=99931) (n:=384) (r':=99999) dc dc dc dw48_2)).next (b:=1153) (r:=99999) (n:=384) (r':=99999) dc dc dc dw48_3)).next (b:=1537) (r:=99999) (n:=383) (r':=99999) dc dc dc dw48_4)
theorem dw4_0:rowW 4 (λq=>Nat.ble q 99999) 159 1 50000=true:=by decide +kernel
theorem dw4:ChW 4 (40*4) 99999:=((ChW.zero).next (b:=1) (r:=50000) (n:=159) (r':=99999) dc dc dc dw4_0)
end Go.Proofs.YtmehbpjpbbhohaaGreatDoor
