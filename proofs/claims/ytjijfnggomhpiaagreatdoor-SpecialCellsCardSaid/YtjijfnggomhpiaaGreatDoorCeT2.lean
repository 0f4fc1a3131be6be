/- Part of the proof of a statement about the special functions. -/
import Derived.Test.YtjijfnggomhpiaaGreatDoorIsO
set_option linter.all false
namespace Go.Proofs.YtjijfnggomhpiaaGreatDoor
theorem ce21_320 : ceRow 21 320 79 = true := by decide +kernel
theorem ce22_0 : ceRow 22 0 320 = true := by decide +kernel
theorem ce22_320 : ceRow 22 320 98 = true := by decide +kernel
theorem ce23_0 : ceRow 23 0 320 = true := by decide +kernel
theorem ce23_320 : ceRow 23 320 117 = true := by decide +kernel
theorem ce24_0 : ceRow 24 0 320 = true := by decide +kernel
theorem ce24_320 : ceRow 24 320 136 = true := by decide +kernel
theorem ce25_0 : ceRow 25 0 320 = true := by decide +kernel
theorem ce25_320 : ceRow 25 320 155 = true := by decide +kernel
theorem ce26_0 : ceRow 26 0 320 = true := by decide +kernel
theorem ce26_320 : ceRow 26 320 174 = true := by decide +kernel
theorem ce27_0 : ceRow 27 0 320 = true := by decide +kernel
theorem ce27_320 : ceRow 27 320 193 = true := by decide +kernel
theorem ce28_0 : ceRow 28 0 320 = true := by decide +kernel
theorem ce28_320 : ceRow 28 320 212 = true := by decide +kernel
theorem ce29_0 : ceRow 29 0 320 = true := by decide +kernel
end Go.Proofs.YtjijfnggomhpiaaGreatDoor
