/- Part of the proof of a statement about the special functions. -/
import Derived.Test.YtjijfnggomhpiaaGreatDoorIsO
set_option linter.all false
namespace Go.Proofs.YtjijfnggomhpiaaGreatDoor
theorem ce1_0 : ceRow 1 0 19 = true := by decide +kernel
theorem ce2_0 : ceRow 2 0 38 = true := by decide +kernel
theorem ce3_0 : ceRow 3 0 57 = true := by decide +kernel
theorem ce4_0 : ceRow 4 0 76 = true := by decide +kernel
theorem ce5_0 : ceRow 5 0 95 = true := by decide +kernel
theorem ce6_0 : ceRow 6 0 114 = true := by decide +kernel
theorem ce7_0 : ceRow 7 0 133 = true := by decide +kernel
theorem ce8_0 : ceRow 8 0 152 = true := by decide +kernel
theorem ce9_0 : ceRow 9 0 171 = true := by decide +kernel
theorem ce10_0 : ceRow 10 0 190 = true := by decide +kernel
theorem ce11_0 : ceRow 11 0 209 = true := by decide +kernel
theorem ce12_0 : ceRow 12 0 228 = true := by decide +kernel
theorem ce13_0 : ceRow 13 0 247 = true := by decide +kernel
theorem ce14_0 : ceRow 14 0 266 = true := by decide +kernel
theorem ce15_0 : ceRow 15 0 285 = true := by decide +kernel
theorem ce16_0 : ceRow 16 0 304 = true := by decide +kernel
theorem ce17_0 : ceRow 17 0 320 = true := by decide +kernel
theorem ce17_320 : ceRow 17 320 3 = true := by decide +kernel
theorem ce18_0 : ceRow 18 0 320 = true := by decide +kernel
theorem ce18_320 : ceRow 18 320 22 = true := by decide +kernel
theorem ce19_0 : ceRow 19 0 320 = true := by decide +kernel
theorem ce19_320 : ceRow 19 320 41 = true := by decide +kernel
theorem ce20_0 : ceRow 20 0 320 = true := by decide +kernel
theorem ce20_320 : ceRow 20 320 60 = true := by decide +kernel
theorem ce21_0 : ceRow 21 0 320 = true := by decide +kernel
end Go.Proofs.YtjijfnggomhpiaaGreatDoor
