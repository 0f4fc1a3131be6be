/- Part of the proof of a statement about the special functions. -/
import Derived.Test.YtjijfnggomhpiaaGreatDoorFastToIsN
set_option linter.all false
namespace Go.Proofs.YtjijfnggomhpiaaGreatDoor
def pqN : N2 := (17724538509055160272981674, 17724538509055160272981675)
theorem pq_root : rootP S25 (piN 25, piN 25 + 1) = some pqN := by decide +kernel
def p2N : N2 := (25066282746310005024157652, 25066282746310005024157653)
theorem p2_root : rootP S25 (byP (piN 25, piN 25 + 1) 2 1) = some p2N := by decide +kernel
end Go.Proofs.YtjijfnggomhpiaaGreatDoor
