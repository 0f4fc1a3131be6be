/- Part of the proof of a statement about the special functions. -/
import Derived.Test.YtjijfnggomhpiaaGreatDoorTtO
set_option linter.all false
namespace Go.Proofs.YtjijfnggomhpiaaGreatDoor
theorem tt45_1200 : ttRow 45 1200 240 = true := by decide +kernel
theorem tt45_1440 : ttRow 45 1440 180 = true := by decide +kernel
theorem tt46_0 : ttRow 46 0 240 = true := by decide +kernel
theorem tt46_240 : ttRow 46 240 240 = true := by decide +kernel
theorem tt46_480 : ttRow 46 480 240 = true := by decide +kernel
theorem tt46_720 : ttRow 46 720 240 = true := by decide +kernel
theorem tt46_960 : ttRow 46 960 240 = true := by decide +kernel
theorem tt46_1200 : ttRow 46 1200 240 = true := by decide +kernel
theorem tt46_1440 : ttRow 46 1440 216 = true := by decide +kernel
theorem tt47_0 : ttRow 47 0 240 = true := by decide +kernel
theorem tt47_240 : ttRow 47 240 240 = true := by decide +kernel
theorem tt47_480 : ttRow 47 480 240 = true := by decide +kernel
theorem tt47_720 : ttRow 47 720 240 = true := by decide +kernel
end Go.Proofs.YtjijfnggomhpiaaGreatDoor
