/- Part of the proof of a statement about the special functions. -/
import Derived.Test.YtjijfnggomhpiaaGreatDoorTtO
set_option linter.all false
namespace Go.Proofs.YtjijfnggomhpiaaGreatDoor
theorem tt29_720 : ttRow 29 720 240 = true := by decide +kernel
theorem tt29_960 : ttRow 29 960 84 = true := by decide +kernel
theorem tt30_0 : ttRow 30 0 240 = true := by decide +kernel
theorem tt30_240 : ttRow 30 240 240 = true := by decide +kernel
theorem tt30_480 : ttRow 30 480 240 = true := by decide +kernel
theorem tt30_720 : ttRow 30 720 240 = true := by decide +kernel
theorem tt30_960 : ttRow 30 960 120 = true := by decide +kernel
theorem tt31_0 : ttRow 31 0 240 = true := by decide +kernel
theorem tt31_240 : ttRow 31 240 240 = true := by decide +kernel
theorem tt31_480 : ttRow 31 480 240 = true := by decide +kernel
theorem tt31_720 : ttRow 31 720 240 = true := by decide +kernel
theorem tt31_960 : ttRow 31 960 156 = true := by decide +kernel
theorem tt32_0 : ttRow 32 0 240 = true := by decide +kernel
end Go.Proofs.YtjijfnggomhpiaaGreatDoor
