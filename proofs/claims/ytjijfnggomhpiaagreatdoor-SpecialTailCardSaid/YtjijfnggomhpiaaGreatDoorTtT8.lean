/- Part of the proof of a statement about the special functions. -/
import Derived.Test.YtjijfnggomhpiaaGreatDoorTtO
set_option linter.all false
namespace Go.Proofs.YtjijfnggomhpiaaGreatDoor
theorem tt35_240 : ttRow 35 240 240 = true := by decide +kernel
theorem tt35_480 : ttRow 35 480 240 = true := by decide +kernel
theorem tt35_720 : ttRow 35 720 240 = true := by decide +kernel
theorem tt35_960 : ttRow 35 960 240 = true := by decide +kernel
theorem tt35_1200 : ttRow 35 1200 60 = true := by decide +kernel
theorem tt36_0 : ttRow 36 0 240 = true := by decide +kernel
theorem tt36_240 : ttRow 36 240 240 = true := by decide +kernel
theorem tt36_480 : ttRow 36 480 240 = true := by decide +kernel
theorem tt36_720 : ttRow 36 720 240 = true := by decide +kernel
theorem tt36_960 : ttRow 36 960 240 = true := by decide +kernel
theorem tt36_1200 : ttRow 36 1200 96 = true := by decide +kernel
theorem tt37_0 : ttRow 37 0 240 = true := by decide +kernel
theorem tt37_240 : ttRow 37 240 240 = true := by decide +kernel
theorem tt37_480 : ttRow 37 480 240 = true := by decide +kernel
end Go.Proofs.YtjijfnggomhpiaaGreatDoor
