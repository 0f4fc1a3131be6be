/- Part of the proof of a statement about the special functions. -/
import Derived.Test.YtjijfnggomhpiaaGreatDoorTtO
set_option linter.all false
namespace Go.Proofs.YtjijfnggomhpiaaGreatDoor
theorem tt41_1200 : ttRow 41 1200 240 = true := by decide +kernel
theorem tt41_1440 : ttRow 41 1440 36 = true := by decide +kernel
theorem tt42_0 : ttRow 42 0 240 = true := by decide +kernel
theorem tt42_240 : ttRow 42 240 240 = true := by decide +kernel
theorem tt42_480 : ttRow 42 480 240 = true := by decide +kernel
theorem tt42_720 : ttRow 42 720 240 = true := by decide +kernel
theorem tt42_960 : ttRow 42 960 240 = true := by decide +kernel
theorem tt42_1200 : ttRow 42 1200 240 = true := by decide +kernel
theorem tt42_1440 : ttRow 42 1440 72 = true := by decide +kernel
theorem tt43_0 : ttRow 43 0 240 = true := by decide +kernel
theorem tt43_240 : ttRow 43 240 240 = true := by decide +kernel
theorem tt43_480 : ttRow 43 480 240 = true := by decide +kernel
theorem tt43_720 : ttRow 43 720 240 = true := by decide +kernel
theorem tt43_960 : ttRow 43 960 240 = true := by decide +kernel
end Go.Proofs.YtjijfnggomhpiaaGreatDoor
