/- Part of the proof of a statement about the special functions. -/
import Derived.Test.YtjijfnggomhpiaaGreatDoorTtO
set_option linter.all false
namespace Go.Proofs.YtjijfnggomhpiaaGreatDoor
theorem tt14_0 : ttRow 14 0 240 = true := by decide +kernel
theorem tt14_240 : ttRow 14 240 240 = true := by decide +kernel
theorem tt14_480 : ttRow 14 480 24 = true := by decide +kernel
theorem tt15_0 : ttRow 15 0 240 = true := by decide +kernel
theorem tt15_240 : ttRow 15 240 240 = true := by decide +kernel
theorem tt15_480 : ttRow 15 480 60 = true := by decide +kernel
theorem tt16_0 : ttRow 16 0 240 = true := by decide +kernel
theorem tt16_240 : ttRow 16 240 240 = true := by decide +kernel
theorem tt16_480 : ttRow 16 480 96 = true := by decide +kernel
theorem tt17_0 : ttRow 17 0 240 = true := by decide +kernel
theorem tt17_240 : ttRow 17 240 240 = true := by decide +kernel
theorem tt17_480 : ttRow 17 480 132 = true := by decide +kernel
theorem tt18_0 : ttRow 18 0 240 = true := by decide +kernel
theorem tt18_240 : ttRow 18 240 240 = true := by decide +kernel
theorem tt18_480 : ttRow 18 480 168 = true := by decide +kernel
theorem tt19_0 : ttRow 19 0 240 = true := by decide +kernel
end Go.Proofs.YtjijfnggomhpiaaGreatDoor
