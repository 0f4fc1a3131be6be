/- Part of the proof of a statement about the special functions. -/
import Derived.Test.YtjijfnggomhpiaaGreatDoorTtO
set_option linter.all false
namespace Go.Proofs.YtjijfnggomhpiaaGreatDoor
theorem tt43_1200 : ttRow 43 1200 240 = true := by decide +kernel
theorem tt43_1440 : ttRow 43 1440 108 = true := by decide +kernel
theorem tt44_0 : ttRow 44 0 240 = true := by decide +kernel
theorem tt44_240 : ttRow 44 240 240 = true := by decide +kernel
theorem tt44_480 : ttRow 44 480 240 = true := by decide +kernel
theorem tt44_720 : ttRow 44 720 240 = true := by decide +kernel
theorem tt44_960 : ttRow 44 960 240 = true := by decide +kernel
theorem tt44_1200 : ttRow 44 1200 240 = true := by decide +kernel
theorem tt44_1440 : ttRow 44 1440 144 = true := by decide +kernel
theorem tt45_0 : ttRow 45 0 240 = true := by decide +kernel
theorem tt45_240 : ttRow 45 240 240 = true := by decide +kernel
theorem tt45_480 : ttRow 45 480 240 = true := by decide +kernel
theorem tt45_720 : ttRow 45 720 240 = true := by decide +kernel
theorem tt45_960 : ttRow 45 960 240 = true := by decide +kernel
end Go.Proofs.YtjijfnggomhpiaaGreatDoor
