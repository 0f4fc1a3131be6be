/- Part of the proof of a statement about the special functions. -/
import Derived.Test.YteojhdahhaodoaaGreatDoorCardAToTbK
set_option linter.all false
namespace Go.Proofs.YteojhdahhaodoaaGreatDoor
open Go Go.Eng Go.RowKit
theorem te0 : expRows 0 16 = true := by decide +kernel
theorem te1 : expRows 16 8 = true := by decide +kernel
theorem te2 : expRows 24 7 = true := by decide +kernel
theorem te3 : expRows 31 5 = true := by decide +kernel
theorem te4 : expRows 36 5 = true := by decide +kernel
theorem te5 : expRows 41 5 = true := by decide +kernel
theorem te6 : expRows 46 4 = true := by decide +kernel
theorem exT {N d : Nat} (hN : 0 < N) (h19 : N ≤ 19 * d) (hd : 0 < d) (h50 : d ≤ 50) (hg : Nat.gcd N d = 1) : ExR (N : Int) d ∧ ExR (-(N : Int)) d := by
  by_cases k0 : d ≤ 16
  · exact expRows_ok te0 (by omega) (by omega) hN h19 (by omega) hg
  by_cases k1 : d ≤ 24
  · exact expRows_ok te1 (by omega) (by omega) hN h19 (by omega) hg
  by_cases k2 : d ≤ 31
  · exact expRows_ok te2 (by omega) (by omega) hN h19 (by omega) hg
  by_cases k3 : d ≤ 36
  · exact expRows_ok te3 (by omega) (by omega) hN h19 (by omega) hg
  by_cases k4 : d ≤ 41
  · exact expRows_ok te4 (by omega) (by omega) hN h19 (by omega) hg
  by_cases k5 : d ≤ 46
  · exact expRows_ok te5 (by omega) (by omega) hN h19 (by omega) hg
  exact expRows_ok te6 (by omega) (by omega) hN h19 (by omega) hg
end Go.Proofs.YteojhdahhaodoaaGreatDoor
