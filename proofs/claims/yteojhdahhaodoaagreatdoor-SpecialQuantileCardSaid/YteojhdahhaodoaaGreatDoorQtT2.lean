/- Part of the proof of a statement about the special functions. -/
import Derived.Test.YteojhdahhaodoaaGreatDoorCardAToQtK
set_option linter.all false
namespace Go.Proofs.YteojhdahhaodoaaGreatDoor
open Go Go.Eng Go.RowKit
theorem qc152 : rootP 1000000000000000 (byP (piN 15, piN 15 + 1) 2 1) = some (2506628274631000, 2506628274631001) := by decide +kernel
theorem qc252 : rootP 10000000000000000000000000 (byP (piN (10 + 15), piN (10 + 15) + 1) 2 1) = some (25066282746310005024157652, 25066282746310005024157653) := by decide +kernel
theorem qt2_0 : qtRows 100 500 1000 2506628274631000 2506628274631001 25066282746310005024157652 25066282746310005024157653 0 100 = true := by decide +kernel
theorem qt2_1 : qtRows 100 500 1000 2506628274631000 2506628274631001 25066282746310005024157652 25066282746310005024157653 100 100 = true := by decide +kernel
theorem qt2_2 : qtRows 100 500 1000 2506628274631000 2506628274631001 25066282746310005024157652 25066282746310005024157653 200 100 = true := by decide +kernel
theorem qt2_3 : qtRows 100 500 1000 2506628274631000 2506628274631001 25066282746310005024157652 25066282746310005024157653 300 100 = true := by decide +kernel
theorem qt2_4 : qtRows 100 500 1000 2506628274631000 2506628274631001 25066282746310005024157652 25066282746310005024157653 400 100 = true := by decide +kernel
theorem qt2_5 : qtRows 100 500 1000 2506628274631000 2506628274631001 25066282746310005024157652 25066282746310005024157653 500 100 = true := by decide +kernel
theorem qt2_6 : qtRows 100 500 1000 2506628274631000 2506628274631001 25066282746310005024157652 25066282746310005024157653 600 100 = true := by decide +kernel
theorem qt2_7 : qtRows 100 500 1000 2506628274631000 2506628274631001 25066282746310005024157652 25066282746310005024157653 700 100 = true := by decide +kernel
theorem qt2_8 : qtRows 100 500 1000 2506628274631000 2506628274631001 25066282746310005024157652 25066282746310005024157653 800 100 = true := by decide +kernel
theorem qt2_9 : qtRows 100 500 1000 2506628274631000 2506628274631001 25066282746310005024157652 25066282746310005024157653 900 99 = true := by decide +kernel
theorem qtT2 {M : Nat} (h1 : 1 ≤ M) (h2 : M ≤ 999) (h3 : M ≠ 500) : QtR 100 M := by
  by_cases k0 : M ≤ 100
  · exact qtRows_ok (by decide) (by decide) (by decide) (by decide) qc152 (by decide +kernel) qc252 (by decide +kernel) qt2_0 (by omega) (by omega) h3
  by_cases k1 : M ≤ 200
  · exact qtRows_ok (by decide) (by decide) (by decide) (by decide) qc152 (by decide +kernel) qc252 (by decide +kernel) qt2_1 (by omega) (by omega) h3
  by_cases k2 : M ≤ 300
  · exact qtRows_ok (by decide) (by decide) (by decide) (by decide) qc152 (by decide +kernel) qc252 (by decide +kernel) qt2_2 (by omega) (by omega) h3
  by_cases k3 : M ≤ 400
  · exact qtRows_ok (by decide) (by decide) (by decide) (by decide) qc152 (by decide +kernel) qc252 (by decide +kernel) qt2_3 (by omega) (by omega) h3
  by_cases k4 : M ≤ 500
  · exact qtRows_ok (by decide) (by decide) (by decide) (by decide) qc152 (by decide +kernel) qc252 (by decide +kernel) qt2_4 (by omega) (by omega) h3
  by_cases k5 : M ≤ 600
  · exact qtRows_ok (by decide) (by decide) (by decide) (by decide) qc152 (by decide +kernel) qc252 (by decide +kernel) qt2_5 (by omega) (by omega) h3
  by_cases k6 : M ≤ 700
  · exact qtRows_ok (by decide) (by decide) (by decide) (by decide) qc152 (by decide +kernel) qc252 (by decide +kernel) qt2_6 (by omega) (by omega) h3
  by_cases k7 : M ≤ 800
  · exact qtRows_ok (by decide) (by decide) (by decide) (by decide) qc152 (by decide +kernel) qc252 (by decide +kernel) qt2_7 (by omega) (by omega) h3
  by_cases k8 : M ≤ 900
  · exact qtRows_ok (by decide) (by decide) (by decide) (by decide) qc152 (by decide +kernel) qc252 (by decide +kernel) qt2_8 (by omega) (by omega) h3
  exact qtRows_ok (by decide) (by decide) (by decide) (by decide) qc152 (by decide +kernel) qc252 (by decide +kernel) qt2_9 (by omega) (by omega) h3
end Go.Proofs.YteojhdahhaodoaaGreatDoor
