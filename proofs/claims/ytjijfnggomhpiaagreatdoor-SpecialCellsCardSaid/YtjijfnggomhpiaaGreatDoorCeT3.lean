/- Part of the proof of a statement about the special functions. -/
import Derived.Test.YtjijfnggomhpiaaGreatDoorIsO
set_option linter.all false
namespace Go.Proofs.YtjijfnggomhpiaaGreatDoor
theorem ce29_320 : ceRow 29 320 231 = true := by decide +kernel
theorem ce30_0 : ceRow 30 0 320 = true := by decide +kernel
theorem ce30_320 : ceRow 30 320 250 = true := by decide +kernel
theorem ce31_0 : ceRow 31 0 320 = true := by decide +kernel
theorem ce31_320 : ceRow 31 320 269 = true := by decide +kernel
theorem ce32_0 : ceRow 32 0 320 = true := by decide +kernel
theorem ce32_320 : ceRow 32 320 288 = true := by decide +kernel
theorem ce33_0 : ceRow 33 0 320 = true := by decide +kernel
theorem ce33_320 : ceRow 33 320 307 = true := by decide +kernel
theorem ce34_0 : ceRow 34 0 320 = true := by decide +kernel
theorem ce34_320 : ceRow 34 320 320 = true := by decide +kernel
theorem ce34_640 : ceRow 34 640 6 = true := by decide +kernel
theorem ce35_0 : ceRow 35 0 320 = true := by decide +kernel
theorem ce35_320 : ceRow 35 320 320 = true := by decide +kernel
theorem ce35_640 : ceRow 35 640 25 = true := by decide +kernel
theorem ce36_0 : ceRow 36 0 320 = true := by decide +kernel
end Go.Proofs.YtjijfnggomhpiaaGreatDoor
