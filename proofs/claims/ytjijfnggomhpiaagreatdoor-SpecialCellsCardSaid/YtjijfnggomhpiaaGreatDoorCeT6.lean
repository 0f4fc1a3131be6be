/- Part of the proof of a statement about the special functions. -/
import Derived.Test.YtjijfnggomhpiaaGreatDoorIsO
set_option linter.all false
namespace Go.Proofs.YtjijfnggomhpiaaGreatDoor
theorem ce47_0 : ceRow 47 0 320 = true := by decide +kernel
theorem ce47_320 : ceRow 47 320 320 = true := by decide +kernel
theorem ce47_640 : ceRow 47 640 253 = true := by decide +kernel
theorem ce48_0 : ceRow 48 0 320 = true := by decide +kernel
theorem ce48_320 : ceRow 48 320 320 = true := by decide +kernel
theorem ce48_640 : ceRow 48 640 272 = true := by decide +kernel
theorem ce49_0 : ceRow 49 0 320 = true := by decide +kernel
theorem ce49_320 : ceRow 49 320 320 = true := by decide +kernel
theorem ce49_640 : ceRow 49 640 291 = true := by decide +kernel
theorem ce50_0 : ceRow 50 0 320 = true := by decide +kernel
theorem ce50_320 : ceRow 50 320 320 = true := by decide +kernel
theorem ce50_640 : ceRow 50 640 310 = true := by decide +kernel
end Go.Proofs.YtjijfnggomhpiaaGreatDoor
