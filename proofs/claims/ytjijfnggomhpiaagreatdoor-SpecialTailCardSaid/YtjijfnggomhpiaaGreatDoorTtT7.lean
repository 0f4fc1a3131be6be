/- Part of the proof of a statement about the special functions. -/
import Derived.Test.YtjijfnggomhpiaaGreatDoorTtO
set_option linter.all false
namespace Go.Proofs.YtjijfnggomhpiaaGreatDoor
theorem tt32_240 : ttRow 32 240 240 = true := by decide +kernel
theorem tt32_480 : ttRow 32 480 240 = true := by decide +kernel
theorem tt32_720 : ttRow 32 720 240 = true := by decide +kernel
theorem tt32_960 : ttRow 32 960 192 = true := by decide +kernel
theorem tt33_0 : ttRow 33 0 240 = true := by decide +kernel
theorem tt33_240 : ttRow 33 240 240 = true := by decide +kernel
theorem tt33_480 : ttRow 33 480 240 = true := by decide +kernel
theorem tt33_720 : ttRow 33 720 240 = true := by decide +kernel
theorem tt33_960 : ttRow 33 960 228 = true := by decide +kernel
theorem tt34_0 : ttRow 34 0 240 = true := by decide +kernel
theorem tt34_240 : ttRow 34 240 240 = true := by decide +kernel
theorem tt34_480 : ttRow 34 480 240 = true := by decide +kernel
theorem tt34_720 : ttRow 34 720 240 = true := by decide +kernel
theorem tt34_960 : ttRow 34 960 240 = true := by decide +kernel
theorem tt34_1200 : ttRow 34 1200 24 = true := by decide +kernel
theorem tt35_0 : ttRow 35 0 240 = true := by decide +kernel
end Go.Proofs.YtjijfnggomhpiaaGreatDoor
