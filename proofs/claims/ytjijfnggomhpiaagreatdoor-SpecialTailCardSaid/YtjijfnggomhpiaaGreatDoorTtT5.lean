/- Part of the proof of a statement about the special functions. -/
import Derived.Test.YtjijfnggomhpiaaGreatDoorTtO
set_option linter.all false
namespace Go.Proofs.YtjijfnggomhpiaaGreatDoor
theorem tt26_720 : ttRow 26 720 216 = true := by decide +kernel
theorem tt27_0 : ttRow 27 0 240 = true := by decide +kernel
theorem tt27_240 : ttRow 27 240 240 = true := by decide +kernel
theorem tt27_480 : ttRow 27 480 240 = true := by decide +kernel
theorem tt27_720 : ttRow 27 720 240 = true := by decide +kernel
theorem tt27_960 : ttRow 27 960 12 = true := by decide +kernel
theorem tt28_0 : ttRow 28 0 240 = true := by decide +kernel
theorem tt28_240 : ttRow 28 240 240 = true := by decide +kernel
theorem tt28_480 : ttRow 28 480 240 = true := by decide +kernel
theorem tt28_720 : ttRow 28 720 240 = true := by decide +kernel
theorem tt28_960 : ttRow 28 960 48 = true := by decide +kernel
theorem tt29_0 : ttRow 29 0 240 = true := by decide +kernel
theorem tt29_240 : ttRow 29 240 240 = true := by decide +kernel
theorem tt29_480 : ttRow 29 480 240 = true := by decide +kernel
end Go.Proofs.YtjijfnggomhpiaaGreatDoor
