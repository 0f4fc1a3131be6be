/- Part of the proof of a statement about risks. -/
import Derived.Test.YtmehbpjpbbhohaaGreatDoorDcAToRj2
set_option linter.all false
namespace Go.Proofs.YtmehbpjpbbhohaaGreatDoor
open Go Go.Eng Go.RowKit
theorem dr15_0:rowV 15 (λq=>Nat.ble q 99616) 200 1 50000=true:=by decide +kernel
theorem dr15_1:rowV 15 (λq=>Nat.ble q 99999) 200 201 99616=true:=by decide +kernel
theorem dr15_2:rowV 15 (λq=>Nat.ble q 99999) 199 401 99999=true:=by decide +kernel
theorem dr15:Chn 15 (40*15) 99999:=((((((Chn.zero).next (b:=1) (r:=50000) (n:=200) (r':=99616) dc dc dc dr15_0)).next (b:=201) (r:=99616) (n:=200) (r':=99999) dc dc dc dr15_1)).next (b:=401) (r:=99999) (n:=199) (r':=99999) dc dc dc dr15_2)
theorem dr14_0:rowV 14 (λq=>Nat.ble q 99622) 187 1 50000=true:=by decide +kernel
theorem dr14_1:rowV 14 (λq=>Nat.ble q 99999) 187 188 99622=true:=by decide +kernel
theorem dr14_2:rowV 14 (λq=>Nat.ble q 99999) 185 375 99999=true:=by decide +kernel
theorem dr14:Chn 14 (40*14) 99999:=((((((Chn.zero).next (b:=1) (r:=50000) (n:=187) (r':=99622) dc dc dc dr14_0)).next (b:=188) (r:=99622) (n:=187) (r':=99999) dc dc dc dr14_1)).next (b:=375) (r:=99999) (n:=185) (r':=99999) dc dc dc dr14_2)
theorem dr3_0:rowV 3 (λq=>Nat.ble q 99999) 119 1 50000=true:=by decide +kernel
theorem dr3:Chn 3 (40*3) 99999:=((Chn.zero).next (b:=1) (r:=50000) (n:=119) (r':=99999) dc dc dc dr3_0)
theorem dr2_0:rowV 2 (λq=>Nat.ble q 99999) 79 1 50000=true:=by decide +kernel
theorem dr2:Chn 2 (40*2) 99999:=((Chn.zero).next (b:=1) (r:=50000) (n:=79) (r':=99999) dc dc dc dr2_0)
end Go.Proofs.YtmehbpjpbbhohaaGreatDoor
