/- Part of the proof of a statement about risks. -/
import Derived.Test.YtmehbpjpbbhohaaGreatDoorDcAToRj2
set_option linter.all false
namespace Go.Proofs.YtmehbpjpbbhohaaGreatDoor
open Go Go.Eng Go.RowKit
theorem dr16_0:rowV 16 (λq=>Nat.ble q 97724) 160 1 50000=true:=by decide +kernel
theorem dr16_1:rowV 16 (λq=>Nat.ble q 99996) 160 161 97724=true:=by decide +kernel
theorem dr16_2:rowV 16 (λq=>Nat.ble q 99999) 160 321 99996=true:=by decide +kernel
theorem dr16_3:rowV 16 (λq=>Nat.ble q 99999) 159 481 99999=true:=by decide +kernel
theorem dr16:Chn 16 (40*16) 99999:=((((((((Chn.zero).next (b:=1) (r:=50000) (n:=160) (r':=97724) dc dc dc dr16_0)).next (b:=161) (r:=97724) (n:=160) (r':=99996) dc dc dc dr16_1)).next (b:=321) (r:=99996) (n:=160) (r':=99999) dc dc dc dr16_2)).next (b:=481) (r:=99999) (n:=159) (r':=99999) dc dc dc dr16_3)
theorem dr13_0:rowV 13 (λq=>Nat.ble q 99611) 173 1 50000=true:=by decide +kernel
theorem dr13_1:rowV 13 (λq=>Nat.ble q 99999) 173 174 99611=true:=by decide +kernel
theorem dr13_2:rowV 13 (λq=>Nat.ble q 99999) 173 347 99999=true:=by decide +kernel
theorem dr13:Chn 13 (40*13) 99999:=((((((Chn.zero).next (b:=1) (r:=50000) (n:=173) (r':=99611) dc dc dc dr13_0)).next (b:=174) (r:=99611) (n:=173) (r':=99999) dc dc dc dr13_1)).next (b:=347) (r:=99999) (n:=173) (r':=99999) dc dc dc dr13_2)
theorem dr4_0:rowV 4 (λq=>Nat.ble q 99999) 159 1 50000=true:=by decide +kernel
theorem dr4:Chn 4 (40*4) 99999:=((Chn.zero).next (b:=1) (r:=50000) (n:=159) (r':=99999) dc dc dc dr4_0)
theorem dr1_0:rowV 1 (λq=>Nat.ble q 99999) 39 1 50000=true:=by decide +kernel
theorem dr1:Chn 1 (40*1) 99999:=((Chn.zero).next (b:=1) (r:=50000) (n:=39) (r':=99999) dc dc dc dr1_0)
end Go.Proofs.YtmehbpjpbbhohaaGreatDoor
