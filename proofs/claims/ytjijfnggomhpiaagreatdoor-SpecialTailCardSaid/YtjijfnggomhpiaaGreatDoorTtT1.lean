/- Part of the proof of a statement about the special functions. -/
import Derived.Test.YtjijfnggomhpiaaGreatDoorTtO
set_option linter.all false
namespace Go.Proofs.YtjijfnggomhpiaaGreatDoor
theorem tt1_0 : ttRow 1 0 36 = true := by decide +kernel
theorem tt2_0 : ttRow 2 0 72 = true := by decide +kernel
theorem tt3_0 : ttRow 3 0 108 = true := by decide +kernel
theorem tt4_0 : ttRow 4 0 144 = true := by decide +kernel
theorem tt5_0 : ttRow 5 0 180 = true := by decide +kernel
theorem tt6_0 : ttRow 6 0 216 = true := by decide +kernel
theorem tt7_0 : ttRow 7 0 240 = true := by decide +kernel
theorem tt7_240 : ttRow 7 240 12 = true := by decide +kernel
theorem tt8_0 : ttRow 8 0 240 = true := by decide +kernel
theorem tt8_240 : ttRow 8 240 48 = true := by decide +kernel
theorem tt9_0 : ttRow 9 0 240 = true := by decide +kernel
theorem tt9_240 : ttRow 9 240 84 = true := by decide +kernel
theorem tt10_0 : ttRow 10 0 240 = true := by decide +kernel
theorem tt10_240 : ttRow 10 240 120 = true := by decide +kernel
theorem tt11_0 : ttRow 11 0 240 = true := by decide +kernel
theorem tt11_240 : ttRow 11 240 156 = true := by decide +kernel
theorem tt12_0 : ttRow 12 0 240 = true := by decide +kernel
theorem tt12_240 : ttRow 12 240 192 = true := by decide +kernel
theorem tt13_0 : ttRow 13 0 240 = true := by decide +kernel
theorem tt13_240 : ttRow 13 240 228 = true := by decide +kernel
end Go.Proofs.YtjijfnggomhpiaaGreatDoor
