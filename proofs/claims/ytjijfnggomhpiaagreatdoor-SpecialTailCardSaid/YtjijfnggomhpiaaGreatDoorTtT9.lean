/- Part of the proof of a statement about the special functions. -/
import Derived.Test.YtjijfnggomhpiaaGreatDoorTtO
set_option linter.all false
namespace Go.Proofs.YtjijfnggomhpiaaGreatDoor
theorem tt37_720 : ttRow 37 720 240 = true := by decide +kernel
theorem tt37_960 : ttRow 37 960 240 = true := by decide +kernel
theorem tt37_1200 : ttRow 37 1200 132 = true := by decide +kernel
theorem tt38_0 : ttRow 38 0 240 = true := by decide +kernel
theorem tt38_240 : ttRow 38 240 240 = true := by decide +kernel
theorem tt38_480 : ttRow 38 480 240 = true := by decide +kernel
theorem tt38_720 : ttRow 38 720 240 = true := by decide +kernel
theorem tt38_960 : ttRow 38 960 240 = true := by decide +kernel
theorem tt38_1200 : ttRow 38 1200 168 = true := by decide +kernel
theorem tt39_0 : ttRow 39 0 240 = true := by decide +kernel
theorem tt39_240 : ttRow 39 240 240 = true := by decide +kernel
theorem tt39_480 : ttRow 39 480 240 = true := by decide +kernel
theorem tt39_720 : ttRow 39 720 240 = true := by decide +kernel
end Go.Proofs.YtjijfnggomhpiaaGreatDoor
