/- Part of the proof of a statement about the special functions. -/
import Derived.Test.YteojhdahhaodoaaGreatDoorCardAToTbK
set_option linter.all false
namespace Go.Proofs.YteojhdahhaodoaaGreatDoor
open Go Go.Eng Go.RowKit
theorem tl_x : artP S25 (ofP S25 1 3) = some (6931471805599453094172270, 6931471805599453094172390) := by decide +kernel
theorem tl0 : logRows 6931471805599453094172270 6931471805599453094172390 0 4 = true := by decide +kernel
theorem tl1 : logRows 6931471805599453094172270 6931471805599453094172390 4 4 = true := by decide +kernel
theorem tl2 : logRows 6931471805599453094172270 6931471805599453094172390 8 4 = true := by decide +kernel
theorem tl3 : logRows 6931471805599453094172270 6931471805599453094172390 12 4 = true := by decide +kernel
theorem tl4 : logRows 6931471805599453094172270 6931471805599453094172390 16 4 = true := by decide +kernel
theorem tl5 : logRows 6931471805599453094172270 6931471805599453094172390 20 5 = true := by decide +kernel
theorem tl6 : logRows 6931471805599453094172270 6931471805599453094172390 25 5 = true := by decide +kernel
theorem tl7 : logRows 6931471805599453094172270 6931471805599453094172390 30 5 = true := by decide +kernel
theorem tl8 : logRows 6931471805599453094172270 6931471805599453094172390 35 5 = true := by decide +kernel
theorem tl9 : logRows 6931471805599453094172270 6931471805599453094172390 40 5 = true := by decide +kernel
theorem tl10 : logRows 6931471805599453094172270 6931471805599453094172390 45 5 = true := by decide +kernel
theorem lgT {n d : Nat} (hd : 0 < d) (h50 : d ≤ 50) (hdn : d < n) (h9 : n ≤ 999) (hg : Nat.gcd n d = 1) : LgR n d ∧ LgR d n := by
  by_cases k0 : d ≤ 4
  · exact logRows_ok tl_x tl0 (by omega) (by omega) hdn h9 hg
  by_cases k1 : d ≤ 8
  · exact logRows_ok tl_x tl1 (by omega) (by omega) hdn h9 hg
  by_cases k2 : d ≤ 12
  · exact logRows_ok tl_x tl2 (by omega) (by omega) hdn h9 hg
  by_cases k3 : d ≤ 16
  · exact logRows_ok tl_x tl3 (by omega) (by omega) hdn h9 hg
  by_cases k4 : d ≤ 20
  · exact logRows_ok tl_x tl4 (by omega) (by omega) hdn h9 hg
  by_cases k5 : d ≤ 25
  · exact logRows_ok tl_x tl5 (by omega) (by omega) hdn h9 hg
  by_cases k6 : d ≤ 30
  · exact logRows_ok tl_x tl6 (by omega) (by omega) hdn h9 hg
  by_cases k7 : d ≤ 35
  · exact logRows_ok tl_x tl7 (by omega) (by omega) hdn h9 hg
  by_cases k8 : d ≤ 40
  · exact logRows_ok tl_x tl8 (by omega) (by omega) hdn h9 hg
  by_cases k9 : d ≤ 45
  · exact logRows_ok tl_x tl9 (by omega) (by omega) hdn h9 hg
  exact logRows_ok tl_x tl10 (by omega) (by omega) hdn h9 hg
end Go.Proofs.YteojhdahhaodoaaGreatDoor
