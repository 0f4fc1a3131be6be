/- Part of the proof of a statement about risks. -/
import Derived.Test.YtmehbpjpbbhohaaGreatDoorDrW
set_option linter.all false
namespace Go.Proofs.YtmehbpjpbbhohaaGreatDoor
open Go Go.Eng Go.RowKit
theorem dw44_0:rowW 44 (λq=>Nat.ble q 94520) 352 1 50000=true:=by decide +kernel
theorem dw44_1:rowW 44 (λq=>Nat.ble q 99931) 352 353 94520=true:=by decide +kernel
theorem dw44_2:rowW 44 (λq=>Nat.ble q 99999) 352 705 99931=true:=by decide +kernel
theorem dw44_3:rowW 44 (λq=>Nat.ble q 99999) 352 1057 99999=true:=by decide +kernel
theorem dw44_4:rowW 44 (λq=>Nat.ble q 99999) 351 1409 99999=true:=by decide +kernel
theorem dw44:ChW 44 (40*44) 99999:=((((((((((ChW.zero).next (b:=1) (r:=50000) (n:=352) (r':=94520) dc dc dc dw44_0)).next (b:=353) (r:=94520) (n:=352) (r':=99931) dc dc dc dw44_1)).next (b:=705) (r:=99931) (n:=352) (r':=99999) dc dc dc dw44_2)).next (b:=1057) (r:=99999) (n:=352) (r':=99999) dc dc dc dw44_3)).next (b:=1409) (r:=99999) (n:=351) (r':=99999) dc dc dc dw44_4)
theorem dw8_0:rowW 8 (λq=>Nat.ble q 99999) 319 1 50000=true:=by decide +kernel
theorem dw8:ChW 8 (40*8) 99999:=((ChW.zero).next (b:=1) (r:=50000) (n:=319) (r':=99999) dc dc dc dw8_0)
end Go.Proofs.YtmehbpjpbbhohaaGreatDoor
