/- Part of the proof of a statement about risks. -/
import Derived.Test.YtmehbpjpbbhohaaGreatDoorDcAToRj2
set_option linter.all false
namespace Go.Proofs.YtmehbpjpbbhohaaGreatDoor
open Go Go.Eng Go.RowKit
theorem dr18_0:rowV 18 (λq=>Nat.ble q 97724) 180 1 50000=true:=by decide +kernel
theorem dr18_1:rowV 18 (λq=>Nat.ble q 99996) 180 181 97724=true:=by decide +kernel
theorem dr18_2:rowV 18 (λq=>Nat.ble q 99999) 180 361 99996=true:=by decide +kernel
theorem dr18_3:rowV 18 (λq=>Nat.ble q 99999) 179 541 99999=true:=by decide +kernel
theorem dr18:Chn 18 (40*18) 99999:=((((((((Chn.zero).next (b:=1) (r:=50000) (n:=180) (r':=97724) dc dc dc dr18_0)).next (b:=181) (r:=97724) (n:=180) (r':=99996) dc dc dc dr18_1)).next (b:=361) (r:=99996) (n:=180) (r':=99999) dc dc dc dr18_2)).next (b:=541) (r:=99999) (n:=179) (r':=99999) dc dc dc dr18_3)
theorem dr11_0:rowV 11 (λq=>Nat.ble q 99623) 147 1 50000=true:=by decide +kernel
theorem dr11_1:rowV 11 (λq=>Nat.ble q 99999) 147 148 99623=true:=by decide +kernel
theorem dr11_2:rowV 11 (λq=>Nat.ble q 99999) 145 295 99999=true:=by decide +kernel
theorem dr11:Chn 11 (40*11) 99999:=((((((Chn.zero).next (b:=1) (r:=50000) (n:=147) (r':=99623) dc dc dc dr11_0)).next (b:=148) (r:=99623) (n:=147) (r':=99999) dc dc dc dr11_1)).next (b:=295) (r:=99999) (n:=145) (r':=99999) dc dc dc dr11_2)
theorem dr6_0:rowV 6 (λq=>Nat.ble q 99996) 120 1 50000=true:=by decide +kernel
theorem dr6_1:rowV 6 (λq=>Nat.ble q 99999) 119 121 99996=true:=by decide +kernel
theorem dr6:Chn 6 (40*6) 99999:=((((Chn.zero).next (b:=1) (r:=50000) (n:=120) (r':=99996) dc dc dc dr6_0)).next (b:=121) (r:=99996) (n:=119) (r':=99999) dc dc dc dr6_1)
end Go.Proofs.YtmehbpjpbbhohaaGreatDoor
