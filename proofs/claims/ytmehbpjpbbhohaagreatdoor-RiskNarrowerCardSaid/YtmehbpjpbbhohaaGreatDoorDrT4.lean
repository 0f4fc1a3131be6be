/- Part of the proof of a statement about risks. -/
import Derived.Test.YtmehbpjpbbhohaaGreatDoorDcAToRj2
set_option linter.all false
namespace Go.Proofs.YtmehbpjpbbhohaaGreatDoor
open Go Go.Eng Go.RowKit
theorem dr17_0:rowV 17 (λq=>Nat.ble q 97724) 170 1 50000=true:=by decide +kernel
theorem dr17_1:rowV 17 (λq=>Nat.ble q 99996) 170 171 97724=true:=by decide +kernel
theorem dr17_2:rowV 17 (λq=>Nat.ble q 99999) 170 341 99996=true:=by decide +kernel
theorem dr17_3:rowV 17 (λq=>Nat.ble q 99999) 169 511 99999=true:=by decide +kernel
theorem dr17:Chn 17 (40*17) 99999:=((((((((Chn.zero).next (b:=1) (r:=50000) (n:=170) (r':=97724) dc dc dc dr17_0)).next (b:=171) (r:=97724) (n:=170) (r':=99996) dc dc dc dr17_1)).next (b:=341) (r:=99996) (n:=170) (r':=99999) dc dc dc dr17_2)).next (b:=511) (r:=99999) (n:=169) (r':=99999) dc dc dc dr17_3)
theorem dr12_0:rowV 12 (λq=>Nat.ble q 99616) 160 1 50000=true:=by decide +kernel
theorem dr12_1:rowV 12 (λq=>Nat.ble q 99999) 160 161 99616=true:=by decide +kernel
theorem dr12_2:rowV 12 (λq=>Nat.ble q 99999) 159 321 99999=true:=by decide +kernel
theorem dr12:Chn 12 (40*12) 99999:=((((((Chn.zero).next (b:=1) (r:=50000) (n:=160) (r':=99616) dc dc dc dr12_0)).next (b:=161) (r:=99616) (n:=160) (r':=99999) dc dc dc dr12_1)).next (b:=321) (r:=99999) (n:=159) (r':=99999) dc dc dc dr12_2)
theorem dr5_0:rowV 5 (λq=>Nat.ble q 99999) 199 1 50000=true:=by decide +kernel
theorem dr5:Chn 5 (40*5) 99999:=((Chn.zero).next (b:=1) (r:=50000) (n:=199) (r':=99999) dc dc dc dr5_0)
end Go.Proofs.YtmehbpjpbbhohaaGreatDoor
