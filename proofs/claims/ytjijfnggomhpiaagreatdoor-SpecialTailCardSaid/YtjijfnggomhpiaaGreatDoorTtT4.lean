/- Part of the proof of a statement about the special functions. -/
import Derived.Test.YtjijfnggomhpiaaGreatDoorTtO
set_option linter.all false
namespace Go.Proofs.YtjijfnggomhpiaaGreatDoor
theorem tt23_240 : ttRow 23 240 240 = true := by decide +kernel
theorem tt23_480 : ttRow 23 480 240 = true := by decide +kernel
theorem tt23_720 : ttRow 23 720 108 = true := by decide +kernel
theorem tt24_0 : ttRow 24 0 240 = true := by decide +kernel
theorem tt24_240 : ttRow 24 240 240 = true := by decide +kernel
theorem tt24_480 : ttRow 24 480 240 = true := by decide +kernel
theorem tt24_720 : ttRow 24 720 144 = true := by decide +kernel
theorem tt25_0 : ttRow 25 0 240 = true := by decide +kernel
theorem tt25_240 : ttRow 25 240 240 = true := by decide +kernel
theorem tt25_480 : ttRow 25 480 240 = true := by decide +kernel
theorem tt25_720 : ttRow 25 720 180 = true := by decide +kernel
theorem tt26_0 : ttRow 26 0 240 = true := by decide +kernel
theorem tt26_240 : ttRow 26 240 240 = true := by decide +kernel
theorem tt26_480 : ttRow 26 480 240 = true := by decide +kernel
end Go.Proofs.YtjijfnggomhpiaaGreatDoor
