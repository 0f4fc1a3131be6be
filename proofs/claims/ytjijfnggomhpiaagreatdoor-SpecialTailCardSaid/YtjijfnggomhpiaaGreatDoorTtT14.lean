/- Part of the proof of a statement about the special functions. -/
import Derived.Test.YtjijfnggomhpiaaGreatDoorTtO
set_option linter.all false
namespace Go.Proofs.YtjijfnggomhpiaaGreatDoor
theorem tt47_960 : ttRow 47 960 240 = true := by decide +kernel
theorem tt47_1200 : ttRow 47 1200 240 = true := by decide +kernel
theorem tt47_1440 : ttRow 47 1440 240 = true := by decide +kernel
theorem tt47_1680 : ttRow 47 1680 12 = true := by decide +kernel
theorem tt48_0 : ttRow 48 0 240 = true := by decide +kernel
theorem tt48_240 : ttRow 48 240 240 = true := by decide +kernel
theorem tt48_480 : ttRow 48 480 240 = true := by decide +kernel
theorem tt48_720 : ttRow 48 720 240 = true := by decide +kernel
theorem tt48_960 : ttRow 48 960 240 = true := by decide +kernel
theorem tt48_1200 : ttRow 48 1200 240 = true := by decide +kernel
theorem tt48_1440 : ttRow 48 1440 240 = true := by decide +kernel
theorem tt48_1680 : ttRow 48 1680 48 = true := by decide +kernel
theorem tt49_0 : ttRow 49 0 240 = true := by decide +kernel
theorem tt49_240 : ttRow 49 240 240 = true := by decide +kernel
theorem tt49_480 : ttRow 49 480 240 = true := by decide +kernel
end Go.Proofs.YtjijfnggomhpiaaGreatDoor
