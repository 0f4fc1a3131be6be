/- Part of the proof of a statement about the special functions. -/
import Derived.Test.YtjijfnggomhpiaaGreatDoorTsT
import Derived.Test.YtjijfnggomhpiaaGreatDoorTtT1
import Derived.Test.YtjijfnggomhpiaaGreatDoorTtT2
import Derived.Test.YtjijfnggomhpiaaGreatDoorTtT3
import Derived.Test.YtjijfnggomhpiaaGreatDoorTtT4
import Derived.Test.YtjijfnggomhpiaaGreatDoorTtT5
import Derived.Test.YtjijfnggomhpiaaGreatDoorTtT6
import Derived.Test.YtjijfnggomhpiaaGreatDoorTtT7
import Derived.Test.YtjijfnggomhpiaaGreatDoorTtT8
import Derived.Test.YtjijfnggomhpiaaGreatDoorTtT9
import Derived.Test.YtjijfnggomhpiaaGreatDoorTtT10
import Derived.Test.YtjijfnggomhpiaaGreatDoorTtT11
import Derived.Test.YtjijfnggomhpiaaGreatDoorTtT12
import Derived.Test.YtjijfnggomhpiaaGreatDoorTtT13
import Derived.Test.YtjijfnggomhpiaaGreatDoorTtT14
import Derived.Test.YtjijfnggomhpiaaGreatDoorTtT15
set_option linter.all false
namespace Go.Proofs.YtjijfnggomhpiaaGreatDoor
theorem td1 {n : Nat} (h0 : 0 < n) (h : n ≤ 36) (g : Nat.gcd n 1 = 1) : TtR n 1 := by
  exact ttRow_ok tt1_0 (by omega) (by omega) (by decide) (by decide) (by omega) g
theorem td2 {n : Nat} (h0 : 0 < n) (h : n ≤ 72) (g : Nat.gcd n 2 = 1) : TtR n 2 := by
  exact ttRow_ok tt2_0 (by omega) (by omega) (by decide) (by decide) (by omega) g
theorem td3 {n : Nat} (h0 : 0 < n) (h : n ≤ 108) (g : Nat.gcd n 3 = 1) : TtR n 3 := by
  exact ttRow_ok tt3_0 (by omega) (by omega) (by decide) (by decide) (by omega) g
theorem td4 {n : Nat} (h0 : 0 < n) (h : n ≤ 144) (g : Nat.gcd n 4 = 1) : TtR n 4 := by
  exact ttRow_ok tt4_0 (by omega) (by omega) (by decide) (by decide) (by omega) g
theorem td5 {n : Nat} (h0 : 0 < n) (h : n ≤ 180) (g : Nat.gcd n 5 = 1) : TtR n 5 := by
  exact ttRow_ok tt5_0 (by omega) (by omega) (by decide) (by decide) (by omega) g
theorem td6 {n : Nat} (h0 : 0 < n) (h : n ≤ 216) (g : Nat.gcd n 6 = 1) : TtR n 6 := by
  exact ttRow_ok tt6_0 (by omega) (by omega) (by decide) (by decide) (by omega) g
theorem td7 {n : Nat} (h0 : 0 < n) (h : n ≤ 252) (g : Nat.gcd n 7 = 1) : TtR n 7 := by
  by_cases k0 : n ≤ 240
  · exact ttRow_ok tt7_0 (by omega) (by omega) (by decide) (by decide) (by omega) g
  exact ttRow_ok tt7_240 (by omega) (by omega) (by decide) (by decide) (by omega) g
theorem td8 {n : Nat} (h0 : 0 < n) (h : n ≤ 288) (g : Nat.gcd n 8 = 1) : TtR n 8 := by
  by_cases k0 : n ≤ 240
  · exact ttRow_ok tt8_0 (by omega) (by omega) (by decide) (by decide) (by omega) g
  exact ttRow_ok tt8_240 (by omega) (by omega) (by decide) (by decide) (by omega) g
theorem td9 {n : Nat} (h0 : 0 < n) (h : n ≤ 324) (g : Nat.gcd n 9 = 1) : TtR n 9 := by
  by_cases k0 : n ≤ 240
  · exact ttRow_ok tt9_0 (by omega) (by omega) (by decide) (by decide) (by omega) g
  exact ttRow_ok tt9_240 (by omega) (by omega) (by decide) (by decide) (by omega) g
theorem td10 {n : Nat} (h0 : 0 < n) (h : n ≤ 360) (g : Nat.gcd n 10 = 1) : TtR n 10 := by
  by_cases k0 : n ≤ 240
  · exact ttRow_ok tt10_0 (by omega) (by omega) (by decide) (by decide) (by omega) g
  exact ttRow_ok tt10_240 (by omega) (by omega) (by decide) (by decide) (by omega) g
theorem td11 {n : Nat} (h0 : 0 < n) (h : n ≤ 396) (g : Nat.gcd n 11 = 1) : TtR n 11 := by
  by_cases k0 : n ≤ 240
  · exact ttRow_ok tt11_0 (by omega) (by omega) (by decide) (by decide) (by omega) g
  exact ttRow_ok tt11_240 (by omega) (by omega) (by decide) (by decide) (by omega) g
theorem td12 {n : Nat} (h0 : 0 < n) (h : n ≤ 432) (g : Nat.gcd n 12 = 1) : TtR n 12 := by
  by_cases k0 : n ≤ 240
  · exact ttRow_ok tt12_0 (by omega) (by omega) (by decide) (by decide) (by omega) g
  exact ttRow_ok tt12_240 (by omega) (by omega) (by decide) (by decide) (by omega) g
theorem td13 {n : Nat} (h0 : 0 < n) (h : n ≤ 468) (g : Nat.gcd n 13 = 1) : TtR n 13 := by
  by_cases k0 : n ≤ 240
  · exact ttRow_ok tt13_0 (by omega) (by omega) (by decide) (by decide) (by omega) g
  exact ttRow_ok tt13_240 (by omega) (by omega) (by decide) (by decide) (by omega) g
theorem td14 {n : Nat} (h0 : 0 < n) (h : n ≤ 504) (g : Nat.gcd n 14 = 1) : TtR n 14 := by
  by_cases k0 : n ≤ 240
  · exact ttRow_ok tt14_0 (by omega) (by omega) (by decide) (by decide) (by omega) g
  by_cases k240 : n ≤ 480
  · exact ttRow_ok tt14_240 (by omega) (by omega) (by decide) (by decide) (by omega) g
  exact ttRow_ok tt14_480 (by omega) (by omega) (by decide) (by decide) (by omega) g
theorem td15 {n : Nat} (h0 : 0 < n) (h : n ≤ 540) (g : Nat.gcd n 15 = 1) : TtR n 15 := by
  by_cases k0 : n ≤ 240
  · exact ttRow_ok tt15_0 (by omega) (by omega) (by decide) (by decide) (by omega) g
  by_cases k240 : n ≤ 480
  · exact ttRow_ok tt15_240 (by omega) (by omega) (by decide) (by decide) (by omega) g
  exact ttRow_ok tt15_480 (by omega) (by omega) (by decide) (by decide) (by omega) g
theorem td16 {n : Nat} (h0 : 0 < n) (h : n ≤ 576) (g : Nat.gcd n 16 = 1) : TtR n 16 := by
  by_cases k0 : n ≤ 240
  · exact ttRow_ok tt16_0 (by omega) (by omega) (by decide) (by decide) (by omega) g
  by_cases k240 : n ≤ 480
  · exact ttRow_ok tt16_240 (by omega) (by omega) (by decide) (by decide) (by omega) g
  exact ttRow_ok tt16_480 (by omega) (by omega) (by decide) (by decide) (by omega) g
theorem td17 {n : Nat} (h0 : 0 < n) (h : n ≤ 612) (g : Nat.gcd n 17 = 1) : TtR n 17 := by
  by_cases k0 : n ≤ 240
  · exact ttRow_ok tt17_0 (by omega) (by omega) (by decide) (by decide) (by omega) g
  by_cases k240 : n ≤ 480
  · exact ttRow_ok tt17_240 (by omega) (by omega) (by decide) (by decide) (by omega) g
  exact ttRow_ok tt17_480 (by omega) (by omega) (by decide) (by decide) (by omega) g
theorem td18 {n : Nat} (h0 : 0 < n) (h : n ≤ 648) (g : Nat.gcd n 18 = 1) : TtR n 18 := by
  by_cases k0 : n ≤ 240
  · exact ttRow_ok tt18_0 (by omega) (by omega) (by decide) (by decide) (by omega) g
  by_cases k240 : n ≤ 480
  · exact ttRow_ok tt18_240 (by omega) (by omega) (by decide) (by decide) (by omega) g
  exact ttRow_ok tt18_480 (by omega) (by omega) (by decide) (by decide) (by omega) g
theorem td19 {n : Nat} (h0 : 0 < n) (h : n ≤ 684) (g : Nat.gcd n 19 = 1) : TtR n 19 := by
  by_cases k0 : n ≤ 240
  · exact ttRow_ok tt19_0 (by omega) (by omega) (by decide) (by decide) (by omega) g
  by_cases k240 : n ≤ 480
  · exact ttRow_ok tt19_240 (by omega) (by omega) (by decide) (by decide) (by omega) g
  exact ttRow_ok tt19_480 (by omega) (by omega) (by decide) (by decide) (by omega) g
theorem td20 {n : Nat} (h0 : 0 < n) (h : n ≤ 720) (g : Nat.gcd n 20 = 1) : TtR n 20 := by
  by_cases k0 : n ≤ 240
  · exact ttRow_ok tt20_0 (by omega) (by omega) (by decide) (by decide) (by omega) g
  by_cases k240 : n ≤ 480
  · exact ttRow_ok tt20_240 (by omega) (by omega) (by decide) (by decide) (by omega) g
  exact ttRow_ok tt20_480 (by omega) (by omega) (by decide) (by decide) (by omega) g
theorem td21 {n : Nat} (h0 : 0 < n) (h : n ≤ 756) (g : Nat.gcd n 21 = 1) : TtR n 21 := by
  by_cases k0 : n ≤ 240
  · exact ttRow_ok tt21_0 (by omega) (by omega) (by decide) (by decide) (by omega) g
  by_cases k240 : n ≤ 480
  · exact ttRow_ok tt21_240 (by omega) (by omega) (by decide) (by decide) (by omega) g
  by_cases k480 : n ≤ 720
  · exact ttRow_ok tt21_480 (by omega) (by omega) (by decide) (by decide) (by omega) g
  exact ttRow_ok tt21_720 (by omega) (by omega) (by decide) (by decide) (by omega) g
theorem td22 {n : Nat} (h0 : 0 < n) (h : n ≤ 792) (g : Nat.gcd n 22 = 1) : TtR n 22 := by
  by_cases k0 : n ≤ 240
  · exact ttRow_ok tt22_0 (by omega) (by omega) (by decide) (by decide) (by omega) g
  by_cases k240 : n ≤ 480
  · exact ttRow_ok tt22_240 (by omega) (by omega) (by decide) (by decide) (by omega) g
  by_cases k480 : n ≤ 720
  · exact ttRow_ok tt22_480 (by omega) (by omega) (by decide) (by decide) (by omega) g
  exact ttRow_ok tt22_720 (by omega) (by omega) (by decide) (by decide) (by omega) g
theorem td23 {n : Nat} (h0 : 0 < n) (h : n ≤ 828) (g : Nat.gcd n 23 = 1) : TtR n 23 := by
  by_cases k0 : n ≤ 240
  · exact ttRow_ok tt23_0 (by omega) (by omega) (by decide) (by decide) (by omega) g
  by_cases k240 : n ≤ 480
  · exact ttRow_ok tt23_240 (by omega) (by omega) (by decide) (by decide) (by omega) g
  by_cases k480 : n ≤ 720
  · exact ttRow_ok tt23_480 (by omega) (by omega) (by decide) (by decide) (by omega) g
  exact ttRow_ok tt23_720 (by omega) (by omega) (by decide) (by decide) (by omega) g
theorem td24 {n : Nat} (h0 : 0 < n) (h : n ≤ 864) (g : Nat.gcd n 24 = 1) : TtR n 24 := by
  by_cases k0 : n ≤ 240
  · exact ttRow_ok tt24_0 (by omega) (by omega) (by decide) (by decide) (by omega) g
  by_cases k240 : n ≤ 480
  · exact ttRow_ok tt24_240 (by omega) (by omega) (by decide) (by decide) (by omega) g
  by_cases k480 : n ≤ 720
  · exact ttRow_ok tt24_480 (by omega) (by omega) (by decide) (by decide) (by omega) g
  exact ttRow_ok tt24_720 (by omega) (by omega) (by decide) (by decide) (by omega) g
theorem td25 {n : Nat} (h0 : 0 < n) (h : n ≤ 900) (g : Nat.gcd n 25 = 1) : TtR n 25 := by
  by_cases k0 : n ≤ 240
  · exact ttRow_ok tt25_0 (by omega) (by omega) (by decide) (by decide) (by omega) g
  by_cases k240 : n ≤ 480
  · exact ttRow_ok tt25_240 (by omega) (by omega) (by decide) (by decide) (by omega) g
  by_cases k480 : n ≤ 720
  · exact ttRow_ok tt25_480 (by omega) (by omega) (by decide) (by decide) (by omega) g
  exact ttRow_ok tt25_720 (by omega) (by omega) (by decide) (by decide) (by omega) g
theorem td26 {n : Nat} (h0 : 0 < n) (h : n ≤ 936) (g : Nat.gcd n 26 = 1) : TtR n 26 := by
  by_cases k0 : n ≤ 240
  · exact ttRow_ok tt26_0 (by omega) (by omega) (by decide) (by decide) (by omega) g
  by_cases k240 : n ≤ 480
  · exact ttRow_ok tt26_240 (by omega) (by omega) (by decide) (by decide) (by omega) g
  by_cases k480 : n ≤ 720
  · exact ttRow_ok tt26_480 (by omega) (by omega) (by decide) (by decide) (by omega) g
  exact ttRow_ok tt26_720 (by omega) (by omega) (by decide) (by decide) (by omega) g
theorem td27 {n : Nat} (h0 : 0 < n) (h : n ≤ 972) (g : Nat.gcd n 27 = 1) : TtR n 27 := by
  by_cases k0 : n ≤ 240
  · exact ttRow_ok tt27_0 (by omega) (by omega) (by decide) (by decide) (by omega) g
  by_cases k240 : n ≤ 480
  · exact ttRow_ok tt27_240 (by omega) (by omega) (by decide) (by decide) (by omega) g
  by_cases k480 : n ≤ 720
  · exact ttRow_ok tt27_480 (by omega) (by omega) (by decide) (by decide) (by omega) g
  by_cases k720 : n ≤ 960
  · exact ttRow_ok tt27_720 (by omega) (by omega) (by decide) (by decide) (by omega) g
  exact ttRow_ok tt27_960 (by omega) (by omega) (by decide) (by decide) (by omega) g
theorem td28 {n : Nat} (h0 : 0 < n) (h : n ≤ 1008) (g : Nat.gcd n 28 = 1) : TtR n 28 := by
  by_cases k0 : n ≤ 240
  · exact ttRow_ok tt28_0 (by omega) (by omega) (by decide) (by decide) (by omega) g
  by_cases k240 : n ≤ 480
  · exact ttRow_ok tt28_240 (by omega) (by omega) (by decide) (by decide) (by omega) g
  by_cases k480 : n ≤ 720
  · exact ttRow_ok tt28_480 (by omega) (by omega) (by decide) (by decide) (by omega) g
  by_cases k720 : n ≤ 960
  · exact ttRow_ok tt28_720 (by omega) (by omega) (by decide) (by decide) (by omega) g
  exact ttRow_ok tt28_960 (by omega) (by omega) (by decide) (by decide) (by omega) g
theorem td29 {n : Nat} (h0 : 0 < n) (h : n ≤ 1044) (g : Nat.gcd n 29 = 1) : TtR n 29 := by
  by_cases k0 : n ≤ 240
  · exact ttRow_ok tt29_0 (by omega) (by omega) (by decide) (by decide) (by omega) g
  by_cases k240 : n ≤ 480
  · exact ttRow_ok tt29_240 (by omega) (by omega) (by decide) (by decide) (by omega) g
  by_cases k480 : n ≤ 720
  · exact ttRow_ok tt29_480 (by omega) (by omega) (by decide) (by decide) (by omega) g
  by_cases k720 : n ≤ 960
  · exact ttRow_ok tt29_720 (by omega) (by omega) (by decide) (by decide) (by omega) g
  exact ttRow_ok tt29_960 (by omega) (by omega) (by decide) (by decide) (by omega) g
theorem td30 {n : Nat} (h0 : 0 < n) (h : n ≤ 1080) (g : Nat.gcd n 30 = 1) : TtR n 30 := by
  by_cases k0 : n ≤ 240
  · exact ttRow_ok tt30_0 (by omega) (by omega) (by decide) (by decide) (by omega) g
  by_cases k240 : n ≤ 480
  · exact ttRow_ok tt30_240 (by omega) (by omega) (by decide) (by decide) (by omega) g
  by_cases k480 : n ≤ 720
  · exact ttRow_ok tt30_480 (by omega) (by omega) (by decide) (by decide) (by omega) g
  by_cases k720 : n ≤ 960
  · exact ttRow_ok tt30_720 (by omega) (by omega) (by decide) (by decide) (by omega) g
  exact ttRow_ok tt30_960 (by omega) (by omega) (by decide) (by decide) (by omega) g
theorem td31 {n : Nat} (h0 : 0 < n) (h : n ≤ 1116) (g : Nat.gcd n 31 = 1) : TtR n 31 := by
  by_cases k0 : n ≤ 240
  · exact ttRow_ok tt31_0 (by omega) (by omega) (by decide) (by decide) (by omega) g
  by_cases k240 : n ≤ 480
  · exact ttRow_ok tt31_240 (by omega) (by omega) (by decide) (by decide) (by omega) g
  by_cases k480 : n ≤ 720
  · exact ttRow_ok tt31_480 (by omega) (by omega) (by decide) (by decide) (by omega) g
  by_cases k720 : n ≤ 960
  · exact ttRow_ok tt31_720 (by omega) (by omega) (by decide) (by decide) (by omega) g
  exact ttRow_ok tt31_960 (by omega) (by omega) (by decide) (by decide) (by omega) g
theorem td32 {n : Nat} (h0 : 0 < n) (h : n ≤ 1152) (g : Nat.gcd n 32 = 1) : TtR n 32 := by
  by_cases k0 : n ≤ 240
  · exact ttRow_ok tt32_0 (by omega) (by omega) (by decide) (by decide) (by omega) g
  by_cases k240 : n ≤ 480
  · exact ttRow_ok tt32_240 (by omega) (by omega) (by decide) (by decide) (by omega) g
  by_cases k480 : n ≤ 720
  · exact ttRow_ok tt32_480 (by omega) (by omega) (by decide) (by decide) (by omega) g
  by_cases k720 : n ≤ 960
  · exact ttRow_ok tt32_720 (by omega) (by omega) (by decide) (by decide) (by omega) g
  exact ttRow_ok tt32_960 (by omega) (by omega) (by decide) (by decide) (by omega) g
theorem td33 {n : Nat} (h0 : 0 < n) (h : n ≤ 1188) (g : Nat.gcd n 33 = 1) : TtR n 33 := by
  by_cases k0 : n ≤ 240
  · exact ttRow_ok tt33_0 (by omega) (by omega) (by decide) (by decide) (by omega) g
  by_cases k240 : n ≤ 480
  · exact ttRow_ok tt33_240 (by omega) (by omega) (by decide) (by decide) (by omega) g
  by_cases k480 : n ≤ 720
  · exact ttRow_ok tt33_480 (by omega) (by omega) (by decide) (by decide) (by omega) g
  by_cases k720 : n ≤ 960
  · exact ttRow_ok tt33_720 (by omega) (by omega) (by decide) (by decide) (by omega) g
  exact ttRow_ok tt33_960 (by omega) (by omega) (by decide) (by decide) (by omega) g
theorem td34 {n : Nat} (h0 : 0 < n) (h : n ≤ 1224) (g : Nat.gcd n 34 = 1) : TtR n 34 := by
  by_cases k0 : n ≤ 240
  · exact ttRow_ok tt34_0 (by omega) (by omega) (by decide) (by decide) (by omega) g
  by_cases k240 : n ≤ 480
  · exact ttRow_ok tt34_240 (by omega) (by omega) (by decide) (by decide) (by omega) g
  by_cases k480 : n ≤ 720
  · exact ttRow_ok tt34_480 (by omega) (by omega) (by decide) (by decide) (by omega) g
  by_cases k720 : n ≤ 960
  · exact ttRow_ok tt34_720 (by omega) (by omega) (by decide) (by decide) (by omega) g
  by_cases k960 : n ≤ 1200
  · exact ttRow_ok tt34_960 (by omega) (by omega) (by decide) (by decide) (by omega) g
  exact ttRow_ok tt34_1200 (by omega) (by omega) (by decide) (by decide) (by omega) g
theorem td35 {n : Nat} (h0 : 0 < n) (h : n ≤ 1260) (g : Nat.gcd n 35 = 1) : TtR n 35 := by
  by_cases k0 : n ≤ 240
  · exact ttRow_ok tt35_0 (by omega) (by omega) (by decide) (by decide) (by omega) g
  by_cases k240 : n ≤ 480
  · exact ttRow_ok tt35_240 (by omega) (by omega) (by decide) (by decide) (by omega) g
  by_cases k480 : n ≤ 720
  · exact ttRow_ok tt35_480 (by omega) (by omega) (by decide) (by decide) (by omega) g
  by_cases k720 : n ≤ 960
  · exact ttRow_ok tt35_720 (by omega) (by omega) (by decide) (by decide) (by omega) g
  by_cases k960 : n ≤ 1200
  · exact ttRow_ok tt35_960 (by omega) (by omega) (by decide) (by decide) (by omega) g
  exact ttRow_ok tt35_1200 (by omega) (by omega) (by decide) (by decide) (by omega) g
theorem td36 {n : Nat} (h0 : 0 < n) (h : n ≤ 1296) (g : Nat.gcd n 36 = 1) : TtR n 36 := by
  by_cases k0 : n ≤ 240
  · exact ttRow_ok tt36_0 (by omega) (by omega) (by decide) (by decide) (by omega) g
  by_cases k240 : n ≤ 480
  · exact ttRow_ok tt36_240 (by omega) (by omega) (by decide) (by decide) (by omega) g
  by_cases k480 : n ≤ 720
  · exact ttRow_ok tt36_480 (by omega) (by omega) (by decide) (by decide) (by omega) g
  by_cases k720 : n ≤ 960
  · exact ttRow_ok tt36_720 (by omega) (by omega) (by decide) (by decide) (by omega) g
  by_cases k960 : n ≤ 1200
  · exact ttRow_ok tt36_960 (by omega) (by omega) (by decide) (by decide) (by omega) g
  exact ttRow_ok tt36_1200 (by omega) (by omega) (by decide) (by decide) (by omega) g
theorem td37 {n : Nat} (h0 : 0 < n) (h : n ≤ 1332) (g : Nat.gcd n 37 = 1) : TtR n 37 := by
  by_cases k0 : n ≤ 240
  · exact ttRow_ok tt37_0 (by omega) (by omega) (by decide) (by decide) (by omega) g
  by_cases k240 : n ≤ 480
  · exact ttRow_ok tt37_240 (by omega) (by omega) (by decide) (by decide) (by omega) g
  by_cases k480 : n ≤ 720
  · exact ttRow_ok tt37_480 (by omega) (by omega) (by decide) (by decide) (by omega) g
  by_cases k720 : n ≤ 960
  · exact ttRow_ok tt37_720 (by omega) (by omega) (by decide) (by decide) (by omega) g
  by_cases k960 : n ≤ 1200
  · exact ttRow_ok tt37_960 (by omega) (by omega) (by decide) (by decide) (by omega) g
  exact ttRow_ok tt37_1200 (by omega) (by omega) (by decide) (by decide) (by omega) g
theorem td38 {n : Nat} (h0 : 0 < n) (h : n ≤ 1368) (g : Nat.gcd n 38 = 1) : TtR n 38 := by
  by_cases k0 : n ≤ 240
  · exact ttRow_ok tt38_0 (by omega) (by omega) (by decide) (by decide) (by omega) g
  by_cases k240 : n ≤ 480
  · exact ttRow_ok tt38_240 (by omega) (by omega) (by decide) (by decide) (by omega) g
  by_cases k480 : n ≤ 720
  · exact ttRow_ok tt38_480 (by omega) (by omega) (by decide) (by decide) (by omega) g
  by_cases k720 : n ≤ 960
  · exact ttRow_ok tt38_720 (by omega) (by omega) (by decide) (by decide) (by omega) g
  by_cases k960 : n ≤ 1200
  · exact ttRow_ok tt38_960 (by omega) (by omega) (by decide) (by decide) (by omega) g
  exact ttRow_ok tt38_1200 (by omega) (by omega) (by decide) (by decide) (by omega) g
theorem td39 {n : Nat} (h0 : 0 < n) (h : n ≤ 1404) (g : Nat.gcd n 39 = 1) : TtR n 39 := by
  by_cases k0 : n ≤ 240
  · exact ttRow_ok tt39_0 (by omega) (by omega) (by decide) (by decide) (by omega) g
  by_cases k240 : n ≤ 480
  · exact ttRow_ok tt39_240 (by omega) (by omega) (by decide) (by decide) (by omega) g
  by_cases k480 : n ≤ 720
  · exact ttRow_ok tt39_480 (by omega) (by omega) (by decide) (by decide) (by omega) g
  by_cases k720 : n ≤ 960
  · exact ttRow_ok tt39_720 (by omega) (by omega) (by decide) (by decide) (by omega) g
  by_cases k960 : n ≤ 1200
  · exact ttRow_ok tt39_960 (by omega) (by omega) (by decide) (by decide) (by omega) g
  exact ttRow_ok tt39_1200 (by omega) (by omega) (by decide) (by decide) (by omega) g
theorem td40 {n : Nat} (h0 : 0 < n) (h : n ≤ 1440) (g : Nat.gcd n 40 = 1) : TtR n 40 := by
  by_cases k0 : n ≤ 240
  · exact ttRow_ok tt40_0 (by omega) (by omega) (by decide) (by decide) (by omega) g
  by_cases k240 : n ≤ 480
  · exact ttRow_ok tt40_240 (by omega) (by omega) (by decide) (by decide) (by omega) g
  by_cases k480 : n ≤ 720
  · exact ttRow_ok tt40_480 (by omega) (by omega) (by decide) (by decide) (by omega) g
  by_cases k720 : n ≤ 960
  · exact ttRow_ok tt40_720 (by omega) (by omega) (by decide) (by decide) (by omega) g
  by_cases k960 : n ≤ 1200
  · exact ttRow_ok tt40_960 (by omega) (by omega) (by decide) (by decide) (by omega) g
  exact ttRow_ok tt40_1200 (by omega) (by omega) (by decide) (by decide) (by omega) g
theorem td41 {n : Nat} (h0 : 0 < n) (h : n ≤ 1476) (g : Nat.gcd n 41 = 1) : TtR n 41 := by
  by_cases k0 : n ≤ 240
  · exact ttRow_ok tt41_0 (by omega) (by omega) (by decide) (by decide) (by omega) g
  by_cases k240 : n ≤ 480
  · exact ttRow_ok tt41_240 (by omega) (by omega) (by decide) (by decide) (by omega) g
  by_cases k480 : n ≤ 720
  · exact ttRow_ok tt41_480 (by omega) (by omega) (by decide) (by decide) (by omega) g
  by_cases k720 : n ≤ 960
  · exact ttRow_ok tt41_720 (by omega) (by omega) (by decide) (by decide) (by omega) g
  by_cases k960 : n ≤ 1200
  · exact ttRow_ok tt41_960 (by omega) (by omega) (by decide) (by decide) (by omega) g
  by_cases k1200 : n ≤ 1440
  · exact ttRow_ok tt41_1200 (by omega) (by omega) (by decide) (by decide) (by omega) g
  exact ttRow_ok tt41_1440 (by omega) (by omega) (by decide) (by decide) (by omega) g
theorem td42 {n : Nat} (h0 : 0 < n) (h : n ≤ 1512) (g : Nat.gcd n 42 = 1) : TtR n 42 := by
  by_cases k0 : n ≤ 240
  · exact ttRow_ok tt42_0 (by omega) (by omega) (by decide) (by decide) (by omega) g
  by_cases k240 : n ≤ 480
  · exact ttRow_ok tt42_240 (by omega) (by omega) (by decide) (by decide) (by omega) g
  by_cases k480 : n ≤ 720
  · exact ttRow_ok tt42_480 (by omega) (by omega) (by decide) (by decide) (by omega) g
  by_cases k720 : n ≤ 960
  · exact ttRow_ok tt42_720 (by omega) (by omega) (by decide) (by decide) (by omega) g
  by_cases k960 : n ≤ 1200
  · exact ttRow_ok tt42_960 (by omega) (by omega) (by decide) (by decide) (by omega) g
  by_cases k1200 : n ≤ 1440
  · exact ttRow_ok tt42_1200 (by omega) (by omega) (by decide) (by decide) (by omega) g
  exact ttRow_ok tt42_1440 (by omega) (by omega) (by decide) (by decide) (by omega) g
theorem td43 {n : Nat} (h0 : 0 < n) (h : n ≤ 1548) (g : Nat.gcd n 43 = 1) : TtR n 43 := by
  by_cases k0 : n ≤ 240
  · exact ttRow_ok tt43_0 (by omega) (by omega) (by decide) (by decide) (by omega) g
  by_cases k240 : n ≤ 480
  · exact ttRow_ok tt43_240 (by omega) (by omega) (by decide) (by decide) (by omega) g
  by_cases k480 : n ≤ 720
  · exact ttRow_ok tt43_480 (by omega) (by omega) (by decide) (by decide) (by omega) g
  by_cases k720 : n ≤ 960
  · exact ttRow_ok tt43_720 (by omega) (by omega) (by decide) (by decide) (by omega) g
  by_cases k960 : n ≤ 1200
  · exact ttRow_ok tt43_960 (by omega) (by omega) (by decide) (by decide) (by omega) g
  by_cases k1200 : n ≤ 1440
  · exact ttRow_ok tt43_1200 (by omega) (by omega) (by decide) (by decide) (by omega) g
  exact ttRow_ok tt43_1440 (by omega) (by omega) (by decide) (by decide) (by omega) g
theorem td44 {n : Nat} (h0 : 0 < n) (h : n ≤ 1584) (g : Nat.gcd n 44 = 1) : TtR n 44 := by
  by_cases k0 : n ≤ 240
  · exact ttRow_ok tt44_0 (by omega) (by omega) (by decide) (by decide) (by omega) g
  by_cases k240 : n ≤ 480
  · exact ttRow_ok tt44_240 (by omega) (by omega) (by decide) (by decide) (by omega) g
  by_cases k480 : n ≤ 720
  · exact ttRow_ok tt44_480 (by omega) (by omega) (by decide) (by decide) (by omega) g
  by_cases k720 : n ≤ 960
  · exact ttRow_ok tt44_720 (by omega) (by omega) (by decide) (by decide) (by omega) g
  by_cases k960 : n ≤ 1200
  · exact ttRow_ok tt44_960 (by omega) (by omega) (by decide) (by decide) (by omega) g
  by_cases k1200 : n ≤ 1440
  · exact ttRow_ok tt44_1200 (by omega) (by omega) (by decide) (by decide) (by omega) g
  exact ttRow_ok tt44_1440 (by omega) (by omega) (by decide) (by decide) (by omega) g
theorem td45 {n : Nat} (h0 : 0 < n) (h : n ≤ 1620) (g : Nat.gcd n 45 = 1) : TtR n 45 := by
  by_cases k0 : n ≤ 240
  · exact ttRow_ok tt45_0 (by omega) (by omega) (by decide) (by decide) (by omega) g
  by_cases k240 : n ≤ 480
  · exact ttRow_ok tt45_240 (by omega) (by omega) (by decide) (by decide) (by omega) g
  by_cases k480 : n ≤ 720
  · exact ttRow_ok tt45_480 (by omega) (by omega) (by decide) (by decide) (by omega) g
  by_cases k720 : n ≤ 960
  · exact ttRow_ok tt45_720 (by omega) (by omega) (by decide) (by decide) (by omega) g
  by_cases k960 : n ≤ 1200
  · exact ttRow_ok tt45_960 (by omega) (by omega) (by decide) (by decide) (by omega) g
  by_cases k1200 : n ≤ 1440
  · exact ttRow_ok tt45_1200 (by omega) (by omega) (by decide) (by decide) (by omega) g
  exact ttRow_ok tt45_1440 (by omega) (by omega) (by decide) (by decide) (by omega) g
theorem td46 {n : Nat} (h0 : 0 < n) (h : n ≤ 1656) (g : Nat.gcd n 46 = 1) : TtR n 46 := by
  by_cases k0 : n ≤ 240
  · exact ttRow_ok tt46_0 (by omega) (by omega) (by decide) (by decide) (by omega) g
  by_cases k240 : n ≤ 480
  · exact ttRow_ok tt46_240 (by omega) (by omega) (by decide) (by decide) (by omega) g
  by_cases k480 : n ≤ 720
  · exact ttRow_ok tt46_480 (by omega) (by omega) (by decide) (by decide) (by omega) g
  by_cases k720 : n ≤ 960
  · exact ttRow_ok tt46_720 (by omega) (by omega) (by decide) (by decide) (by omega) g
  by_cases k960 : n ≤ 1200
  · exact ttRow_ok tt46_960 (by omega) (by omega) (by decide) (by decide) (by omega) g
  by_cases k1200 : n ≤ 1440
  · exact ttRow_ok tt46_1200 (by omega) (by omega) (by decide) (by decide) (by omega) g
  exact ttRow_ok tt46_1440 (by omega) (by omega) (by decide) (by decide) (by omega) g
theorem td47 {n : Nat} (h0 : 0 < n) (h : n ≤ 1692) (g : Nat.gcd n 47 = 1) : TtR n 47 := by
  by_cases k0 : n ≤ 240
  · exact ttRow_ok tt47_0 (by omega) (by omega) (by decide) (by decide) (by omega) g
  by_cases k240 : n ≤ 480
  · exact ttRow_ok tt47_240 (by omega) (by omega) (by decide) (by decide) (by omega) g
  by_cases k480 : n ≤ 720
  · exact ttRow_ok tt47_480 (by omega) (by omega) (by decide) (by decide) (by omega) g
  by_cases k720 : n ≤ 960
  · exact ttRow_ok tt47_720 (by omega) (by omega) (by decide) (by decide) (by omega) g
  by_cases k960 : n ≤ 1200
  · exact ttRow_ok tt47_960 (by omega) (by omega) (by decide) (by decide) (by omega) g
  by_cases k1200 : n ≤ 1440
  · exact ttRow_ok tt47_1200 (by omega) (by omega) (by decide) (by decide) (by omega) g
  by_cases k1440 : n ≤ 1680
  · exact ttRow_ok tt47_1440 (by omega) (by omega) (by decide) (by decide) (by omega) g
  exact ttRow_ok tt47_1680 (by omega) (by omega) (by decide) (by decide) (by omega) g
theorem td48 {n : Nat} (h0 : 0 < n) (h : n ≤ 1728) (g : Nat.gcd n 48 = 1) : TtR n 48 := by
  by_cases k0 : n ≤ 240
  · exact ttRow_ok tt48_0 (by omega) (by omega) (by decide) (by decide) (by omega) g
  by_cases k240 : n ≤ 480
  · exact ttRow_ok tt48_240 (by omega) (by omega) (by decide) (by decide) (by omega) g
  by_cases k480 : n ≤ 720
  · exact ttRow_ok tt48_480 (by omega) (by omega) (by decide) (by decide) (by omega) g
  by_cases k720 : n ≤ 960
  · exact ttRow_ok tt48_720 (by omega) (by omega) (by decide) (by decide) (by omega) g
  by_cases k960 : n ≤ 1200
  · exact ttRow_ok tt48_960 (by omega) (by omega) (by decide) (by decide) (by omega) g
  by_cases k1200 : n ≤ 1440
  · exact ttRow_ok tt48_1200 (by omega) (by omega) (by decide) (by decide) (by omega) g
  by_cases k1440 : n ≤ 1680
  · exact ttRow_ok tt48_1440 (by omega) (by omega) (by decide) (by decide) (by omega) g
  exact ttRow_ok tt48_1680 (by omega) (by omega) (by decide) (by decide) (by omega) g
theorem td49 {n : Nat} (h0 : 0 < n) (h : n ≤ 1764) (g : Nat.gcd n 49 = 1) : TtR n 49 := by
  by_cases k0 : n ≤ 240
  · exact ttRow_ok tt49_0 (by omega) (by omega) (by decide) (by decide) (by omega) g
  by_cases k240 : n ≤ 480
  · exact ttRow_ok tt49_240 (by omega) (by omega) (by decide) (by decide) (by omega) g
  by_cases k480 : n ≤ 720
  · exact ttRow_ok tt49_480 (by omega) (by omega) (by decide) (by decide) (by omega) g
  by_cases k720 : n ≤ 960
  · exact ttRow_ok tt49_720 (by omega) (by omega) (by decide) (by decide) (by omega) g
  by_cases k960 : n ≤ 1200
  · exact ttRow_ok tt49_960 (by omega) (by omega) (by decide) (by decide) (by omega) g
  by_cases k1200 : n ≤ 1440
  · exact ttRow_ok tt49_1200 (by omega) (by omega) (by decide) (by decide) (by omega) g
  by_cases k1440 : n ≤ 1680
  · exact ttRow_ok tt49_1440 (by omega) (by omega) (by decide) (by decide) (by omega) g
  exact ttRow_ok tt49_1680 (by omega) (by omega) (by decide) (by decide) (by omega) g
theorem td50 {n : Nat} (h0 : 0 < n) (h : n ≤ 1800) (g : Nat.gcd n 50 = 1) : TtR n 50 := by
  by_cases k0 : n ≤ 240
  · exact ttRow_ok tt50_0 (by omega) (by omega) (by decide) (by decide) (by omega) g
  by_cases k240 : n ≤ 480
  · exact ttRow_ok tt50_240 (by omega) (by omega) (by decide) (by decide) (by omega) g
  by_cases k480 : n ≤ 720
  · exact ttRow_ok tt50_480 (by omega) (by omega) (by decide) (by decide) (by omega) g
  by_cases k720 : n ≤ 960
  · exact ttRow_ok tt50_720 (by omega) (by omega) (by decide) (by decide) (by omega) g
  by_cases k960 : n ≤ 1200
  · exact ttRow_ok tt50_960 (by omega) (by omega) (by decide) (by decide) (by omega) g
  by_cases k1200 : n ≤ 1440
  · exact ttRow_ok tt50_1200 (by omega) (by omega) (by decide) (by decide) (by omega) g
  by_cases k1440 : n ≤ 1680
  · exact ttRow_ok tt50_1440 (by omega) (by omega) (by decide) (by decide) (by omega) g
  exact ttRow_ok tt50_1680 (by omega) (by omega) (by decide) (by decide) (by omega) g
theorem tt_all {n d : Nat} (h0 : 0 < n) (hd : 0 < d) (hd50 : d ≤ 50) (h : n ≤ 36 * d) (g : Nat.gcd n d = 1) : TtR n d := by
  match d, hd, hd50, h, g with
  | 1, _, _, h, g => exact td1 h0 (by omega) g
  | 2, _, _, h, g => exact td2 h0 (by omega) g
  | 3, _, _, h, g => exact td3 h0 (by omega) g
  | 4, _, _, h, g => exact td4 h0 (by omega) g
  | 5, _, _, h, g => exact td5 h0 (by omega) g
  | 6, _, _, h, g => exact td6 h0 (by omega) g
  | 7, _, _, h, g => exact td7 h0 (by omega) g
  | 8, _, _, h, g => exact td8 h0 (by omega) g
  | 9, _, _, h, g => exact td9 h0 (by omega) g
  | 10, _, _, h, g => exact td10 h0 (by omega) g
  | 11, _, _, h, g => exact td11 h0 (by omega) g
  | 12, _, _, h, g => exact td12 h0 (by omega) g
  | 13, _, _, h, g => exact td13 h0 (by omega) g
  | 14, _, _, h, g => exact td14 h0 (by omega) g
  | 15, _, _, h, g => exact td15 h0 (by omega) g
  | 16, _, _, h, g => exact td16 h0 (by omega) g
  | 17, _, _, h, g => exact td17 h0 (by omega) g
  | 18, _, _, h, g => exact td18 h0 (by omega) g
  | 19, _, _, h, g => exact td19 h0 (by omega) g
  | 20, _, _, h, g => exact td20 h0 (by omega) g
  | 21, _, _, h, g => exact td21 h0 (by omega) g
  | 22, _, _, h, g => exact td22 h0 (by omega) g
  | 23, _, _, h, g => exact td23 h0 (by omega) g
  | 24, _, _, h, g => exact td24 h0 (by omega) g
  | 25, _, _, h, g => exact td25 h0 (by omega) g
  | 26, _, _, h, g => exact td26 h0 (by omega) g
  | 27, _, _, h, g => exact td27 h0 (by omega) g
  | 28, _, _, h, g => exact td28 h0 (by omega) g
  | 29, _, _, h, g => exact td29 h0 (by omega) g
  | 30, _, _, h, g => exact td30 h0 (by omega) g
  | 31, _, _, h, g => exact td31 h0 (by omega) g
  | 32, _, _, h, g => exact td32 h0 (by omega) g
  | 33, _, _, h, g => exact td33 h0 (by omega) g
  | 34, _, _, h, g => exact td34 h0 (by omega) g
  | 35, _, _, h, g => exact td35 h0 (by omega) g
  | 36, _, _, h, g => exact td36 h0 (by omega) g
  | 37, _, _, h, g => exact td37 h0 (by omega) g
  | 38, _, _, h, g => exact td38 h0 (by omega) g
  | 39, _, _, h, g => exact td39 h0 (by omega) g
  | 40, _, _, h, g => exact td40 h0 (by omega) g
  | 41, _, _, h, g => exact td41 h0 (by omega) g
  | 42, _, _, h, g => exact td42 h0 (by omega) g
  | 43, _, _, h, g => exact td43 h0 (by omega) g
  | 44, _, _, h, g => exact td44 h0 (by omega) g
  | 45, _, _, h, g => exact td45 h0 (by omega) g
  | 46, _, _, h, g => exact td46 h0 (by omega) g
  | 47, _, _, h, g => exact td47 h0 (by omega) g
  | 48, _, _, h, g => exact td48 h0 (by omega) g
  | 49, _, _, h, g => exact td49 h0 (by omega) g
  | 50, _, _, h, g => exact td50 h0 (by omega) g
  | n + 51, _, h, _, _ => omega
theorem ts_all {n d : Nat} (h0 : 0 < n) (hd : 0 < d) (hd50 : d ≤ 50) (h : n ≤ 6 * d) (g : Nat.gcd n d = 1) : TsR n d := by
  match d, hd, hd50, h, g with
  | 1, _, _, h, g => exact tqRow_ok ts1 (by omega) (by omega) (by decide) (by decide) (by omega) g
  | 2, _, _, h, g => exact tqRow_ok ts2 (by omega) (by omega) (by decide) (by decide) (by omega) g
  | 3, _, _, h, g => exact tqRow_ok ts3 (by omega) (by omega) (by decide) (by decide) (by omega) g
  | 4, _, _, h, g => exact tqRow_ok ts4 (by omega) (by omega) (by decide) (by decide) (by omega) g
  | 5, _, _, h, g => exact tqRow_ok ts5 (by omega) (by omega) (by decide) (by decide) (by omega) g
  | 6, _, _, h, g => exact tqRow_ok ts6 (by omega) (by omega) (by decide) (by decide) (by omega) g
  | 7, _, _, h, g => exact tqRow_ok ts7 (by omega) (by omega) (by decide) (by decide) (by omega) g
  | 8, _, _, h, g => exact tqRow_ok ts8 (by omega) (by omega) (by decide) (by decide) (by omega) g
  | 9, _, _, h, g => exact tqRow_ok ts9 (by omega) (by omega) (by decide) (by decide) (by omega) g
  | 10, _, _, h, g => exact tqRow_ok ts10 (by omega) (by omega) (by decide) (by decide) (by omega) g
  | 11, _, _, h, g => exact tqRow_ok ts11 (by omega) (by omega) (by decide) (by decide) (by omega) g
  | 12, _, _, h, g => exact tqRow_ok ts12 (by omega) (by omega) (by decide) (by decide) (by omega) g
  | 13, _, _, h, g => exact tqRow_ok ts13 (by omega) (by omega) (by decide) (by decide) (by omega) g
  | 14, _, _, h, g => exact tqRow_ok ts14 (by omega) (by omega) (by decide) (by decide) (by omega) g
  | 15, _, _, h, g => exact tqRow_ok ts15 (by omega) (by omega) (by decide) (by decide) (by omega) g
  | 16, _, _, h, g => exact tqRow_ok ts16 (by omega) (by omega) (by decide) (by decide) (by omega) g
  | 17, _, _, h, g => exact tqRow_ok ts17 (by omega) (by omega) (by decide) (by decide) (by omega) g
  | 18, _, _, h, g => exact tqRow_ok ts18 (by omega) (by omega) (by decide) (by decide) (by omega) g
  | 19, _, _, h, g => exact tqRow_ok ts19 (by omega) (by omega) (by decide) (by decide) (by omega) g
  | 20, _, _, h, g => exact tqRow_ok ts20 (by omega) (by omega) (by decide) (by decide) (by omega) g
  | 21, _, _, h, g => exact tqRow_ok ts21 (by omega) (by omega) (by decide) (by decide) (by omega) g
  | 22, _, _, h, g => exact tqRow_ok ts22 (by omega) (by omega) (by decide) (by decide) (by omega) g
  | 23, _, _, h, g => exact tqRow_ok ts23 (by omega) (by omega) (by decide) (by decide) (by omega) g
  | 24, _, _, h, g => exact tqRow_ok ts24 (by omega) (by omega) (by decide) (by decide) (by omega) g
  | 25, _, _, h, g => exact tqRow_ok ts25 (by omega) (by omega) (by decide) (by decide) (by omega) g
  | 26, _, _, h, g => exact tqRow_ok ts26 (by omega) (by omega) (by decide) (by decide) (by omega) g
  | 27, _, _, h, g => exact tqRow_ok ts27 (by omega) (by omega) (by decide) (by decide) (by omega) g
  | 28, _, _, h, g => exact tqRow_ok ts28 (by omega) (by omega) (by decide) (by decide) (by omega) g
  | 29, _, _, h, g => exact tqRow_ok ts29 (by omega) (by omega) (by decide) (by decide) (by omega) g
  | 30, _, _, h, g => exact tqRow_ok ts30 (by omega) (by omega) (by decide) (by decide) (by omega) g
  | 31, _, _, h, g => exact tqRow_ok ts31 (by omega) (by omega) (by decide) (by decide) (by omega) g
  | 32, _, _, h, g => exact tqRow_ok ts32 (by omega) (by omega) (by decide) (by decide) (by omega) g
  | 33, _, _, h, g => exact tqRow_ok ts33 (by omega) (by omega) (by decide) (by decide) (by omega) g
  | 34, _, _, h, g => exact tqRow_ok ts34 (by omega) (by omega) (by decide) (by decide) (by omega) g
  | 35, _, _, h, g => exact tqRow_ok ts35 (by omega) (by omega) (by decide) (by decide) (by omega) g
  | 36, _, _, h, g => exact tqRow_ok ts36 (by omega) (by omega) (by decide) (by decide) (by omega) g
  | 37, _, _, h, g => exact tqRow_ok ts37 (by omega) (by omega) (by decide) (by decide) (by omega) g
  | 38, _, _, h, g => exact tqRow_ok ts38 (by omega) (by omega) (by decide) (by decide) (by omega) g
  | 39, _, _, h, g => exact tqRow_ok ts39 (by omega) (by omega) (by decide) (by decide) (by omega) g
  | 40, _, _, h, g => exact tqRow_ok ts40 (by omega) (by omega) (by decide) (by decide) (by omega) g
  | 41, _, _, h, g => exact tqRow_ok ts41 (by omega) (by omega) (by decide) (by decide) (by omega) g
  | 42, _, _, h, g => exact tqRow_ok ts42 (by omega) (by omega) (by decide) (by decide) (by omega) g
  | 43, _, _, h, g => exact tqRow_ok ts43 (by omega) (by omega) (by decide) (by decide) (by omega) g
  | 44, _, _, h, g => exact tqRow_ok ts44 (by omega) (by omega) (by decide) (by decide) (by omega) g
  | 45, _, _, h, g => exact tqRow_ok ts45 (by omega) (by omega) (by decide) (by decide) (by omega) g
  | 46, _, _, h, g => exact tqRow_ok ts46 (by omega) (by omega) (by decide) (by decide) (by omega) g
  | 47, _, _, h, g => exact tqRow_ok ts47 (by omega) (by omega) (by decide) (by decide) (by omega) g
  | 48, _, _, h, g => exact tqRow_ok ts48 (by omega) (by omega) (by decide) (by decide) (by omega) g
  | 49, _, _, h, g => exact tqRow_ok ts49 (by omega) (by omega) (by decide) (by decide) (by omega) g
  | 50, _, _, h, g => exact tqRow_ok ts50 (by omega) (by omega) (by decide) (by decide) (by omega) g
  | n + 51, _, h, _, _ => omega
end Go.Proofs.YtjijfnggomhpiaaGreatDoor
