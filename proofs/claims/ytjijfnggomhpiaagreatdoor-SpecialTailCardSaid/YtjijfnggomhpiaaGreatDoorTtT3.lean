/- Part of the proof of a statement about the special functions. -/
import Derived.Test.YtjijfnggomhpiaaGreatDoorTtO
set_option linter.all false
namespace Go.Proofs.YtjijfnggomhpiaaGreatDoor
theorem tt19_240 : ttRow 19 240 240 = true := by decide +kernel
theorem tt19_480 : ttRow 19 480 204 = true := by decide +kernel
theorem tt20_0 : ttRow 20 0 240 = true := by decide +kernel
theorem tt20_240 : ttRow 20 240 240 = true := by decide +kernel
theorem tt20_480 : ttRow 20 480 240 = true := by decide +kernel
theorem tt21_0 : ttRow 21 0 240 = true := by decide +kernel
theorem tt21_240 : ttRow 21 240 240 = true := by decide +kernel
theorem tt21_480 : ttRow 21 480 240 = true := by decide +kernel
theorem tt21_720 : ttRow 21 720 36 = true := by decide +kernel
theorem tt22_0 : ttRow 22 0 240 = true := by decide +kernel
theorem tt22_240 : ttRow 22 240 240 = true := by decide +kernel
theorem tt22_480 : ttRow 22 480 240 = true := by decide +kernel
theorem tt22_720 : ttRow 22 720 72 = true := by decide +kernel
theorem tt23_0 : ttRow 23 0 240 = true := by decide +kernel
end Go.Proofs.YtjijfnggomhpiaaGreatDoor
