/- Part of the proof of a statement about the special functions. -/
import Derived.Test.YtjijfnggomhpiaaGreatDoorIsO
set_option linter.all false
namespace Go.Proofs.YtjijfnggomhpiaaGreatDoor
theorem ce41_640 : ceRow 41 640 139 = true := by decide +kernel
theorem ce42_0 : ceRow 42 0 320 = true := by decide +kernel
theorem ce42_320 : ceRow 42 320 320 = true := by decide +kernel
theorem ce42_640 : ceRow 42 640 158 = true := by decide +kernel
theorem ce43_0 : ceRow 43 0 320 = true := by decide +kernel
theorem ce43_320 : ceRow 43 320 320 = true := by decide +kernel
theorem ce43_640 : ceRow 43 640 177 = true := by decide +kernel
theorem ce44_0 : ceRow 44 0 320 = true := by decide +kernel
theorem ce44_320 : ceRow 44 320 320 = true := by decide +kernel
theorem ce44_640 : ceRow 44 640 196 = true := by decide +kernel
theorem ce45_0 : ceRow 45 0 320 = true := by decide +kernel
theorem ce45_320 : ceRow 45 320 320 = true := by decide +kernel
theorem ce45_640 : ceRow 45 640 215 = true := by decide +kernel
theorem ce46_0 : ceRow 46 0 320 = true := by decide +kernel
theorem ce46_320 : ceRow 46 320 320 = true := by decide +kernel
theorem ce46_640 : ceRow 46 640 234 = true := by decide +kernel
end Go.Proofs.YtjijfnggomhpiaaGreatDoor
