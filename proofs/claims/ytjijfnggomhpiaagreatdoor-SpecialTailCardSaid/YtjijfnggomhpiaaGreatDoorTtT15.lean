/- Part of the proof of a statement about the special functions. -/
import Derived.Test.YtjijfnggomhpiaaGreatDoorTtO
set_option linter.all false
namespace Go.Proofs.YtjijfnggomhpiaaGreatDoor
theorem tt49_720 : ttRow 49 720 240 = true := by decide +kernel
theorem tt49_960 : ttRow 49 960 240 = true := by decide +kernel
theorem tt49_1200 : ttRow 49 1200 240 = true := by decide +kernel
theorem tt49_1440 : ttRow 49 1440 240 = true := by decide +kernel
theorem tt49_1680 : ttRow 49 1680 84 = true := by decide +kernel
theorem tt50_0 : ttRow 50 0 240 = true := by decide +kernel
theorem tt50_240 : ttRow 50 240 240 = true := by decide +kernel
theorem tt50_480 : ttRow 50 480 240 = true := by decide +kernel
theorem tt50_720 : ttRow 50 720 240 = true := by decide +kernel
theorem tt50_960 : ttRow 50 960 240 = true := by decide +kernel
theorem tt50_1200 : ttRow 50 1200 240 = true := by decide +kernel
theorem tt50_1440 : ttRow 50 1440 240 = true := by decide +kernel
theorem tt50_1680 : ttRow 50 1680 120 = true := by decide +kernel
end Go.Proofs.YtjijfnggomhpiaaGreatDoor
