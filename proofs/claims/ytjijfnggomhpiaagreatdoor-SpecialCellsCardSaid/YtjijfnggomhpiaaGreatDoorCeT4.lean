/- Part of the proof of a statement about the special functions. -/
import Derived.Test.YtjijfnggomhpiaaGreatDoorIsO
set_option linter.all false
namespace Go.Proofs.YtjijfnggomhpiaaGreatDoor
theorem ce36_320 : ceRow 36 320 320 = true := by decide +kernel
theorem ce36_640 : ceRow 36 640 44 = true := by decide +kernel
theorem ce37_0 : ceRow 37 0 320 = true := by decide +kernel
theorem ce37_320 : ceRow 37 320 320 = true := by decide +kernel
theorem ce37_640 : ceRow 37 640 63 = true := by decide +kernel
theorem ce38_0 : ceRow 38 0 320 = true := by decide +kernel
theorem ce38_320 : ceRow 38 320 320 = true := by decide +kernel
theorem ce38_640 : ceRow 38 640 82 = true := by decide +kernel
theorem ce39_0 : ceRow 39 0 320 = true := by decide +kernel
theorem ce39_320 : ceRow 39 320 320 = true := by decide +kernel
theorem ce39_640 : ceRow 39 640 101 = true := by decide +kernel
theorem ce40_0 : ceRow 40 0 320 = true := by decide +kernel
theorem ce40_320 : ceRow 40 320 320 = true := by decide +kernel
theorem ce40_640 : ceRow 40 640 120 = true := by decide +kernel
theorem ce41_0 : ceRow 41 0 320 = true := by decide +kernel
theorem ce41_320 : ceRow 41 320 320 = true := by decide +kernel
end Go.Proofs.YtjijfnggomhpiaaGreatDoor
