/- Part of the proof of a statement about risks. -/
import Derived.Test.YtmehbpjpbbhohaaGreatDoorDcAToRj2
set_option linter.all false
namespace Go.Proofs.YtmehbpjpbbhohaaGreatDoor
open Go Go.Eng Go.RowKit
theorem dr19_0:rowV 19 (λq=>Nat.ble q 97724) 190 1 50000=true:=by decide +kernel
theorem dr19_1:rowV 19 (λq=>Nat.ble q 99996) 190 191 97724=true:=by decide +kernel
theorem dr19_2:rowV 19 (λq=>Nat.ble q 99999) 190 381 99996=true:=by decide +kernel
theorem dr19_3:rowV 19 (λq=>Nat.ble q 99999) 189 571 99999=true:=by decide +kernel
theorem dr19:Chn 19 (40*19) 99999:=((((((((Chn.zero).next (b:=1) (r:=50000) (n:=190) (r':=97724) dc dc dc dr19_0)).next (b:=191) (r:=97724) (n:=190) (r':=99996) dc dc dc dr19_1)).next (b:=381) (r:=99996) (n:=190) (r':=99999) dc dc dc dr19_2)).next (b:=571) (r:=99999) (n:=189) (r':=99999) dc dc dc dr19_3)
theorem dr10_0:rowV 10 (λq=>Nat.ble q 99996) 200 1 50000=true:=by decide +kernel
theorem dr10_1:rowV 10 (λq=>Nat.ble q 99999) 199 201 99996=true:=by decide +kernel
theorem dr10:Chn 10 (40*10) 99999:=((((Chn.zero).next (b:=1) (r:=50000) (n:=200) (r':=99996) dc dc dc dr10_0)).next (b:=201) (r:=99996) (n:=199) (r':=99999) dc dc dc dr10_1)
theorem dr7_0:rowV 7 (λq=>Nat.ble q 99996) 140 1 50000=true:=by decide +kernel
theorem dr7_1:rowV 7 (λq=>Nat.ble q 99999) 139 141 99996=true:=by decide +kernel
theorem dr7:Chn 7 (40*7) 99999:=((((Chn.zero).next (b:=1) (r:=50000) (n:=140) (r':=99996) dc dc dc dr7_0)).next (b:=141) (r:=99996) (n:=139) (r':=99999) dc dc dc dr7_1)
end Go.Proofs.YtmehbpjpbbhohaaGreatDoor
