/- Part of the proof of a statement about risks. -/
import Derived.Test.YtmehbpjpbbhohaaGreatDoorDcAToRj2
set_option linter.all false
namespace Go.Proofs.YtmehbpjpbbhohaaGreatDoor
open Go Go.Eng Go.RowKit
theorem dr20_0:rowV 20 (λq=>Nat.ble q 97724) 200 1 50000=true:=by decide +kernel
theorem dr20_1:rowV 20 (λq=>Nat.ble q 99996) 200 201 97724=true:=by decide +kernel
theorem dr20_2:rowV 20 (λq=>Nat.ble q 99999) 200 401 99996=true:=by decide +kernel
theorem dr20_3:rowV 20 (λq=>Nat.ble q 99999) 199 601 99999=true:=by decide +kernel
theorem dr20:Chn 20 (40*20) 99999:=((((((((Chn.zero).next (b:=1) (r:=50000) (n:=200) (r':=97724) dc dc dc dr20_0)).next (b:=201) (r:=97724) (n:=200) (r':=99996) dc dc dc dr20_1)).next (b:=401) (r:=99996) (n:=200) (r':=99999) dc dc dc dr20_2)).next (b:=601) (r:=99999) (n:=199) (r':=99999) dc dc dc dr20_3)
theorem dr9_0:rowV 9 (λq=>Nat.ble q 99996) 180 1 50000=true:=by decide +kernel
theorem dr9_1:rowV 9 (λq=>Nat.ble q 99999) 179 181 99996=true:=by decide +kernel
theorem dr9:Chn 9 (40*9) 99999:=((((Chn.zero).next (b:=1) (r:=50000) (n:=180) (r':=99996) dc dc dc dr9_0)).next (b:=181) (r:=99996) (n:=179) (r':=99999) dc dc dc dr9_1)
theorem dr8_0:rowV 8 (λq=>Nat.ble q 99996) 160 1 50000=true:=by decide +kernel
theorem dr8_1:rowV 8 (λq=>Nat.ble q 99999) 159 161 99996=true:=by decide +kernel
theorem dr8:Chn 8 (40*8) 99999:=((((Chn.zero).next (b:=1) (r:=50000) (n:=160) (r':=99996) dc dc dc dr8_0)).next (b:=161) (r:=99996) (n:=159) (r':=99999) dc dc dc dr8_1)
end Go.Proofs.YtmehbpjpbbhohaaGreatDoor
