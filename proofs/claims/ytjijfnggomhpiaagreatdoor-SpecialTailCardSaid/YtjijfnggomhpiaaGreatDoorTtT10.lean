/- Part of the proof of a statement about the special functions. -/
import Derived.Test.YtjijfnggomhpiaaGreatDoorTtO
set_option linter.all false
namespace Go.Proofs.YtjijfnggomhpiaaGreatDoor
theorem tt39_960 : ttRow 39 960 240 = true := by decide +kernel
theorem tt39_1200 : ttRow 39 1200 204 = true := by decide +kernel
theorem tt40_0 : ttRow 40 0 240 = true := by decide +kernel
theorem tt40_240 : ttRow 40 240 240 = true := by decide +kernel
theorem tt40_480 : ttRow 40 480 240 = true := by decide +kernel
theorem tt40_720 : ttRow 40 720 240 = true := by decide +kernel
theorem tt40_960 : ttRow 40 960 240 = true := by decide +kernel
theorem tt40_1200 : ttRow 40 1200 240 = true := by decide +kernel
theorem tt41_0 : ttRow 41 0 240 = true := by decide +kernel
theorem tt41_240 : ttRow 41 240 240 = true := by decide +kernel
theorem tt41_480 : ttRow 41 480 240 = true := by decide +kernel
theorem tt41_720 : ttRow 41 720 240 = true := by decide +kernel
theorem tt41_960 : ttRow 41 960 240 = true := by decide +kernel
end Go.Proofs.YtjijfnggomhpiaaGreatDoor
