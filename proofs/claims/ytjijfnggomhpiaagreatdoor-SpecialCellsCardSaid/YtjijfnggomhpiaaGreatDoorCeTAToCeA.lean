/- Part of the proof of a statement about the special functions. -/
import Derived.Test.YtjijfnggomhpiaaGreatDoorCeT1
import Derived.Test.YtjijfnggomhpiaaGreatDoorCeT2
import Derived.Test.YtjijfnggomhpiaaGreatDoorCeT3
import Derived.Test.YtjijfnggomhpiaaGreatDoorCeT4
import Derived.Test.YtjijfnggomhpiaaGreatDoorCeT5
import Derived.Test.YtjijfnggomhpiaaGreatDoorCeT6
import Derived.Test.YtjijfnggomhpiaaGreatDoorLaw6
set_option linter.all false
namespace Go.Proofs.YtjijfnggomhpiaaGreatDoor
theorem cd1 {n : Nat} (h0 : 0 < n) (h : n ≤ 19) (g : Nat.gcd n 1 = 1) : CeR n 1 := by
  exact ceRow_ok ce1_0 (by omega) (by omega) (by decide) (by decide) (by omega) g
theorem cd2 {n : Nat} (h0 : 0 < n) (h : n ≤ 38) (g : Nat.gcd n 2 = 1) : CeR n 2 := by
  exact ceRow_ok ce2_0 (by omega) (by omega) (by decide) (by decide) (by omega) g
theorem cd3 {n : Nat} (h0 : 0 < n) (h : n ≤ 57) (g : Nat.gcd n 3 = 1) : CeR n 3 := by
  exact ceRow_ok ce3_0 (by omega) (by omega) (by decide) (by decide) (by omega) g
theorem cd4 {n : Nat} (h0 : 0 < n) (h : n ≤ 76) (g : Nat.gcd n 4 = 1) : CeR n 4 := by
  exact ceRow_ok ce4_0 (by omega) (by omega) (by decide) (by decide) (by omega) g
theorem cd5 {n : Nat} (h0 : 0 < n) (h : n ≤ 95) (g : Nat.gcd n 5 = 1) : CeR n 5 := by
  exact ceRow_ok ce5_0 (by omega) (by omega) (by decide) (by decide) (by omega) g
theorem cd6 {n : Nat} (h0 : 0 < n) (h : n ≤ 114) (g : Nat.gcd n 6 = 1) : CeR n 6 := by
  exact ceRow_ok ce6_0 (by omega) (by omega) (by decide) (by decide) (by omega) g
theorem cd7 {n : Nat} (h0 : 0 < n) (h : n ≤ 133) (g : Nat.gcd n 7 = 1) : CeR n 7 := by
  exact ceRow_ok ce7_0 (by omega) (by omega) (by decide) (by decide) (by omega) g
theorem cd8 {n : Nat} (h0 : 0 < n) (h : n ≤ 152) (g : Nat.gcd n 8 = 1) : CeR n 8 := by
  exact ceRow_ok ce8_0 (by omega) (by omega) (by decide) (by decide) (by omega) g
theorem cd9 {n : Nat} (h0 : 0 < n) (h : n ≤ 171) (g : Nat.gcd n 9 = 1) : CeR n 9 := by
  exact ceRow_ok ce9_0 (by omega) (by omega) (by decide) (by decide) (by omega) g
theorem cd10 {n : Nat} (h0 : 0 < n) (h : n ≤ 190) (g : Nat.gcd n 10 = 1) : CeR n 10 := by
  exact ceRow_ok ce10_0 (by omega) (by omega) (by decide) (by decide) (by omega) g
theorem cd11 {n : Nat} (h0 : 0 < n) (h : n ≤ 209) (g : Nat.gcd n 11 = 1) : CeR n 11 := by
  exact ceRow_ok ce11_0 (by omega) (by omega) (by decide) (by decide) (by omega) g
theorem cd12 {n : Nat} (h0 : 0 < n) (h : n ≤ 228) (g : Nat.gcd n 12 = 1) : CeR n 12 := by
  exact ceRow_ok ce12_0 (by omega) (by omega) (by decide) (by decide) (by omega) g
theorem cd13 {n : Nat} (h0 : 0 < n) (h : n ≤ 247) (g : Nat.gcd n 13 = 1) : CeR n 13 := by
  exact ceRow_ok ce13_0 (by omega) (by omega) (by decide) (by decide) (by omega) g
theorem cd14 {n : Nat} (h0 : 0 < n) (h : n ≤ 266) (g : Nat.gcd n 14 = 1) : CeR n 14 := by
  exact ceRow_ok ce14_0 (by omega) (by omega) (by decide) (by decide) (by omega) g
theorem cd15 {n : Nat} (h0 : 0 < n) (h : n ≤ 285) (g : Nat.gcd n 15 = 1) : CeR n 15 := by
  exact ceRow_ok ce15_0 (by omega) (by omega) (by decide) (by decide) (by omega) g
theorem cd16 {n : Nat} (h0 : 0 < n) (h : n ≤ 304) (g : Nat.gcd n 16 = 1) : CeR n 16 := by
  exact ceRow_ok ce16_0 (by omega) (by omega) (by decide) (by decide) (by omega) g
theorem cd17 {n : Nat} (h0 : 0 < n) (h : n ≤ 323) (g : Nat.gcd n 17 = 1) : CeR n 17 := by
  by_cases k0 : n ≤ 320
  · exact ceRow_ok ce17_0 (by omega) (by omega) (by decide) (by decide) (by omega) g
  exact ceRow_ok ce17_320 (by omega) (by omega) (by decide) (by decide) (by omega) g
theorem cd18 {n : Nat} (h0 : 0 < n) (h : n ≤ 342) (g : Nat.gcd n 18 = 1) : CeR n 18 := by
  by_cases k0 : n ≤ 320
  · exact ceRow_ok ce18_0 (by omega) (by omega) (by decide) (by decide) (by omega) g
  exact ceRow_ok ce18_320 (by omega) (by omega) (by decide) (by decide) (by omega) g
theorem cd19 {n : Nat} (h0 : 0 < n) (h : n ≤ 361) (g : Nat.gcd n 19 = 1) : CeR n 19 := by
  by_cases k0 : n ≤ 320
  · exact ceRow_ok ce19_0 (by omega) (by omega) (by decide) (by decide) (by omega) g
  exact ceRow_ok ce19_320 (by omega) (by omega) (by decide) (by decide) (by omega) g
theorem cd20 {n : Nat} (h0 : 0 < n) (h : n ≤ 380) (g : Nat.gcd n 20 = 1) : CeR n 20 := by
  by_cases k0 : n ≤ 320
  · exact ceRow_ok ce20_0 (by omega) (by omega) (by decide) (by decide) (by omega) g
  exact ceRow_ok ce20_320 (by omega) (by omega) (by decide) (by decide) (by omega) g
theorem cd21 {n : Nat} (h0 : 0 < n) (h : n ≤ 399) (g : Nat.gcd n 21 = 1) : CeR n 21 := by
  by_cases k0 : n ≤ 320
  · exact ceRow_ok ce21_0 (by omega) (by omega) (by decide) (by decide) (by omega) g
  exact ceRow_ok ce21_320 (by omega) (by omega) (by decide) (by decide) (by omega) g
theorem cd22 {n : Nat} (h0 : 0 < n) (h : n ≤ 418) (g : Nat.gcd n 22 = 1) : CeR n 22 := by
  by_cases k0 : n ≤ 320
  · exact ceRow_ok ce22_0 (by omega) (by omega) (by decide) (by decide) (by omega) g
  exact ceRow_ok ce22_320 (by omega) (by omega) (by decide) (by decide) (by omega) g
theorem cd23 {n : Nat} (h0 : 0 < n) (h : n ≤ 437) (g : Nat.gcd n 23 = 1) : CeR n 23 := by
  by_cases k0 : n ≤ 320
  · exact ceRow_ok ce23_0 (by omega) (by omega) (by decide) (by decide) (by omega) g
  exact ceRow_ok ce23_320 (by omega) (by omega) (by decide) (by decide) (by omega) g
theorem cd24 {n : Nat} (h0 : 0 < n) (h : n ≤ 456) (g : Nat.gcd n 24 = 1) : CeR n 24 := by
  by_cases k0 : n ≤ 320
  · exact ceRow_ok ce24_0 (by omega) (by omega) (by decide) (by decide) (by omega) g
  exact ceRow_ok ce24_320 (by omega) (by omega) (by decide) (by decide) (by omega) g
theorem cd25 {n : Nat} (h0 : 0 < n) (h : n ≤ 475) (g : Nat.gcd n 25 = 1) : CeR n 25 := by
  by_cases k0 : n ≤ 320
  · exact ceRow_ok ce25_0 (by omega) (by omega) (by decide) (by decide) (by omega) g
  exact ceRow_ok ce25_320 (by omega) (by omega) (by decide) (by decide) (by omega) g
theorem cd26 {n : Nat} (h0 : 0 < n) (h : n ≤ 494) (g : Nat.gcd n 26 = 1) : CeR n 26 := by
  by_cases k0 : n ≤ 320
  · exact ceRow_ok ce26_0 (by omega) (by omega) (by decide) (by decide) (by omega) g
  exact ceRow_ok ce26_320 (by omega) (by omega) (by decide) (by decide) (by omega) g
theorem cd27 {n : Nat} (h0 : 0 < n) (h : n ≤ 513) (g : Nat.gcd n 27 = 1) : CeR n 27 := by
  by_cases k0 : n ≤ 320
  · exact ceRow_ok ce27_0 (by omega) (by omega) (by decide) (by decide) (by omega) g
  exact ceRow_ok ce27_320 (by omega) (by omega) (by decide) (by decide) (by omega) g
theorem cd28 {n : Nat} (h0 : 0 < n) (h : n ≤ 532) (g : Nat.gcd n 28 = 1) : CeR n 28 := by
  by_cases k0 : n ≤ 320
  · exact ceRow_ok ce28_0 (by omega) (by omega) (by decide) (by decide) (by omega) g
  exact ceRow_ok ce28_320 (by omega) (by omega) (by decide) (by decide) (by omega) g
theorem cd29 {n : Nat} (h0 : 0 < n) (h : n ≤ 551) (g : Nat.gcd n 29 = 1) : CeR n 29 := by
  by_cases k0 : n ≤ 320
  · exact ceRow_ok ce29_0 (by omega) (by omega) (by decide) (by decide) (by omega) g
  exact ceRow_ok ce29_320 (by omega) (by omega) (by decide) (by decide) (by omega) g
theorem cd30 {n : Nat} (h0 : 0 < n) (h : n ≤ 570) (g : Nat.gcd n 30 = 1) : CeR n 30 := by
  by_cases k0 : n ≤ 320
  · exact ceRow_ok ce30_0 (by omega) (by omega) (by decide) (by decide) (by omega) g
  exact ceRow_ok ce30_320 (by omega) (by omega) (by decide) (by decide) (by omega) g
theorem cd31 {n : Nat} (h0 : 0 < n) (h : n ≤ 589) (g : Nat.gcd n 31 = 1) : CeR n 31 := by
  by_cases k0 : n ≤ 320
  · exact ceRow_ok ce31_0 (by omega) (by omega) (by decide) (by decide) (by omega) g
  exact ceRow_ok ce31_320 (by omega) (by omega) (by decide) (by decide) (by omega) g
theorem cd32 {n : Nat} (h0 : 0 < n) (h : n ≤ 608) (g : Nat.gcd n 32 = 1) : CeR n 32 := by
  by_cases k0 : n ≤ 320
  · exact ceRow_ok ce32_0 (by omega) (by omega) (by decide) (by decide) (by omega) g
  exact ceRow_ok ce32_320 (by omega) (by omega) (by decide) (by decide) (by omega) g
theorem cd33 {n : Nat} (h0 : 0 < n) (h : n ≤ 627) (g : Nat.gcd n 33 = 1) : CeR n 33 := by
  by_cases k0 : n ≤ 320
  · exact ceRow_ok ce33_0 (by omega) (by omega) (by decide) (by decide) (by omega) g
  exact ceRow_ok ce33_320 (by omega) (by omega) (by decide) (by decide) (by omega) g
theorem cd34 {n : Nat} (h0 : 0 < n) (h : n ≤ 646) (g : Nat.gcd n 34 = 1) : CeR n 34 := by
  by_cases k0 : n ≤ 320
  · exact ceRow_ok ce34_0 (by omega) (by omega) (by decide) (by decide) (by omega) g
  by_cases k320 : n ≤ 640
  · exact ceRow_ok ce34_320 (by omega) (by omega) (by decide) (by decide) (by omega) g
  exact ceRow_ok ce34_640 (by omega) (by omega) (by decide) (by decide) (by omega) g
theorem cd35 {n : Nat} (h0 : 0 < n) (h : n ≤ 665) (g : Nat.gcd n 35 = 1) : CeR n 35 := by
  by_cases k0 : n ≤ 320
  · exact ceRow_ok ce35_0 (by omega) (by omega) (by decide) (by decide) (by omega) g
  by_cases k320 : n ≤ 640
  · exact ceRow_ok ce35_320 (by omega) (by omega) (by decide) (by decide) (by omega) g
  exact ceRow_ok ce35_640 (by omega) (by omega) (by decide) (by decide) (by omega) g
theorem cd36 {n : Nat} (h0 : 0 < n) (h : n ≤ 684) (g : Nat.gcd n 36 = 1) : CeR n 36 := by
  by_cases k0 : n ≤ 320
  · exact ceRow_ok ce36_0 (by omega) (by omega) (by decide) (by decide) (by omega) g
  by_cases k320 : n ≤ 640
  · exact ceRow_ok ce36_320 (by omega) (by omega) (by decide) (by decide) (by omega) g
  exact ceRow_ok ce36_640 (by omega) (by omega) (by decide) (by decide) (by omega) g
theorem cd37 {n : Nat} (h0 : 0 < n) (h : n ≤ 703) (g : Nat.gcd n 37 = 1) : CeR n 37 := by
  by_cases k0 : n ≤ 320
  · exact ceRow_ok ce37_0 (by omega) (by omega) (by decide) (by decide) (by omega) g
  by_cases k320 : n ≤ 640
  · exact ceRow_ok ce37_320 (by omega) (by omega) (by decide) (by decide) (by omega) g
  exact ceRow_ok ce37_640 (by omega) (by omega) (by decide) (by decide) (by omega) g
theorem cd38 {n : Nat} (h0 : 0 < n) (h : n ≤ 722) (g : Nat.gcd n 38 = 1) : CeR n 38 := by
  by_cases k0 : n ≤ 320
  · exact ceRow_ok ce38_0 (by omega) (by omega) (by decide) (by decide) (by omega) g
  by_cases k320 : n ≤ 640
  · exact ceRow_ok ce38_320 (by omega) (by omega) (by decide) (by decide) (by omega) g
  exact ceRow_ok ce38_640 (by omega) (by omega) (by decide) (by decide) (by omega) g
theorem cd39 {n : Nat} (h0 : 0 < n) (h : n ≤ 741) (g : Nat.gcd n 39 = 1) : CeR n 39 := by
  by_cases k0 : n ≤ 320
  · exact ceRow_ok ce39_0 (by omega) (by omega) (by decide) (by decide) (by omega) g
  by_cases k320 : n ≤ 640
  · exact ceRow_ok ce39_320 (by omega) (by omega) (by decide) (by decide) (by omega) g
  exact ceRow_ok ce39_640 (by omega) (by omega) (by decide) (by decide) (by omega) g
theorem cd40 {n : Nat} (h0 : 0 < n) (h : n ≤ 760) (g : Nat.gcd n 40 = 1) : CeR n 40 := by
  by_cases k0 : n ≤ 320
  · exact ceRow_ok ce40_0 (by omega) (by omega) (by decide) (by decide) (by omega) g
  by_cases k320 : n ≤ 640
  · exact ceRow_ok ce40_320 (by omega) (by omega) (by decide) (by decide) (by omega) g
  exact ceRow_ok ce40_640 (by omega) (by omega) (by decide) (by decide) (by omega) g
theorem cd41 {n : Nat} (h0 : 0 < n) (h : n ≤ 779) (g : Nat.gcd n 41 = 1) : CeR n 41 := by
  by_cases k0 : n ≤ 320
  · exact ceRow_ok ce41_0 (by omega) (by omega) (by decide) (by decide) (by omega) g
  by_cases k320 : n ≤ 640
  · exact ceRow_ok ce41_320 (by omega) (by omega) (by decide) (by decide) (by omega) g
  exact ceRow_ok ce41_640 (by omega) (by omega) (by decide) (by decide) (by omega) g
theorem cd42 {n : Nat} (h0 : 0 < n) (h : n ≤ 798) (g : Nat.gcd n 42 = 1) : CeR n 42 := by
  by_cases k0 : n ≤ 320
  · exact ceRow_ok ce42_0 (by omega) (by omega) (by decide) (by decide) (by omega) g
  by_cases k320 : n ≤ 640
  · exact ceRow_ok ce42_320 (by omega) (by omega) (by decide) (by decide) (by omega) g
  exact ceRow_ok ce42_640 (by omega) (by omega) (by decide) (by decide) (by omega) g
theorem cd43 {n : Nat} (h0 : 0 < n) (h : n ≤ 817) (g : Nat.gcd n 43 = 1) : CeR n 43 := by
  by_cases k0 : n ≤ 320
  · exact ceRow_ok ce43_0 (by omega) (by omega) (by decide) (by decide) (by omega) g
  by_cases k320 : n ≤ 640
  · exact ceRow_ok ce43_320 (by omega) (by omega) (by decide) (by decide) (by omega) g
  exact ceRow_ok ce43_640 (by omega) (by omega) (by decide) (by decide) (by omega) g
theorem cd44 {n : Nat} (h0 : 0 < n) (h : n ≤ 836) (g : Nat.gcd n 44 = 1) : CeR n 44 := by
  by_cases k0 : n ≤ 320
  · exact ceRow_ok ce44_0 (by omega) (by omega) (by decide) (by decide) (by omega) g
  by_cases k320 : n ≤ 640
  · exact ceRow_ok ce44_320 (by omega) (by omega) (by decide) (by decide) (by omega) g
  exact ceRow_ok ce44_640 (by omega) (by omega) (by decide) (by decide) (by omega) g
theorem cd45 {n : Nat} (h0 : 0 < n) (h : n ≤ 855) (g : Nat.gcd n 45 = 1) : CeR n 45 := by
  by_cases k0 : n ≤ 320
  · exact ceRow_ok ce45_0 (by omega) (by omega) (by decide) (by decide) (by omega) g
  by_cases k320 : n ≤ 640
  · exact ceRow_ok ce45_320 (by omega) (by omega) (by decide) (by decide) (by omega) g
  exact ceRow_ok ce45_640 (by omega) (by omega) (by decide) (by decide) (by omega) g
theorem cd46 {n : Nat} (h0 : 0 < n) (h : n ≤ 874) (g : Nat.gcd n 46 = 1) : CeR n 46 := by
  by_cases k0 : n ≤ 320
  · exact ceRow_ok ce46_0 (by omega) (by omega) (by decide) (by decide) (by omega) g
  by_cases k320 : n ≤ 640
  · exact ceRow_ok ce46_320 (by omega) (by omega) (by decide) (by decide) (by omega) g
  exact ceRow_ok ce46_640 (by omega) (by omega) (by decide) (by decide) (by omega) g
theorem cd47 {n : Nat} (h0 : 0 < n) (h : n ≤ 893) (g : Nat.gcd n 47 = 1) : CeR n 47 := by
  by_cases k0 : n ≤ 320
  · exact ceRow_ok ce47_0 (by omega) (by omega) (by decide) (by decide) (by omega) g
  by_cases k320 : n ≤ 640
  · exact ceRow_ok ce47_320 (by omega) (by omega) (by decide) (by decide) (by omega) g
  exact ceRow_ok ce47_640 (by omega) (by omega) (by decide) (by decide) (by omega) g
theorem cd48 {n : Nat} (h0 : 0 < n) (h : n ≤ 912) (g : Nat.gcd n 48 = 1) : CeR n 48 := by
  by_cases k0 : n ≤ 320
  · exact ceRow_ok ce48_0 (by omega) (by omega) (by decide) (by decide) (by omega) g
  by_cases k320 : n ≤ 640
  · exact ceRow_ok ce48_320 (by omega) (by omega) (by decide) (by decide) (by omega) g
  exact ceRow_ok ce48_640 (by omega) (by omega) (by decide) (by decide) (by omega) g
theorem cd49 {n : Nat} (h0 : 0 < n) (h : n ≤ 931) (g : Nat.gcd n 49 = 1) : CeR n 49 := by
  by_cases k0 : n ≤ 320
  · exact ceRow_ok ce49_0 (by omega) (by omega) (by decide) (by decide) (by omega) g
  by_cases k320 : n ≤ 640
  · exact ceRow_ok ce49_320 (by omega) (by omega) (by decide) (by decide) (by omega) g
  exact ceRow_ok ce49_640 (by omega) (by omega) (by decide) (by decide) (by omega) g
theorem cd50 {n : Nat} (h0 : 0 < n) (h : n ≤ 950) (g : Nat.gcd n 50 = 1) : CeR n 50 := by
  by_cases k0 : n ≤ 320
  · exact ceRow_ok ce50_0 (by omega) (by omega) (by decide) (by decide) (by omega) g
  by_cases k320 : n ≤ 640
  · exact ceRow_ok ce50_320 (by omega) (by omega) (by decide) (by decide) (by omega) g
  exact ceRow_ok ce50_640 (by omega) (by omega) (by decide) (by decide) (by omega) g
theorem ce_all {n d : Nat} (h0 : 0 < n) (hd : 0 < d) (hd50 : d ≤ 50) (h : n ≤ 19 * d) (g : Nat.gcd n d = 1) : CeR n d := by
  match d, hd, hd50, h, g with
  | 1, _, _, h, g => exact cd1 h0 (by omega) g
  | 2, _, _, h, g => exact cd2 h0 (by omega) g
  | 3, _, _, h, g => exact cd3 h0 (by omega) g
  | 4, _, _, h, g => exact cd4 h0 (by omega) g
  | 5, _, _, h, g => exact cd5 h0 (by omega) g
  | 6, _, _, h, g => exact cd6 h0 (by omega) g
  | 7, _, _, h, g => exact cd7 h0 (by omega) g
  | 8, _, _, h, g => exact cd8 h0 (by omega) g
  | 9, _, _, h, g => exact cd9 h0 (by omega) g
  | 10, _, _, h, g => exact cd10 h0 (by omega) g
  | 11, _, _, h, g => exact cd11 h0 (by omega) g
  | 12, _, _, h, g => exact cd12 h0 (by omega) g
  | 13, _, _, h, g => exact cd13 h0 (by omega) g
  | 14, _, _, h, g => exact cd14 h0 (by omega) g
  | 15, _, _, h, g => exact cd15 h0 (by omega) g
  | 16, _, _, h, g => exact cd16 h0 (by omega) g
  | 17, _, _, h, g => exact cd17 h0 (by omega) g
  | 18, _, _, h, g => exact cd18 h0 (by omega) g
  | 19, _, _, h, g => exact cd19 h0 (by omega) g
  | 20, _, _, h, g => exact cd20 h0 (by omega) g
  | 21, _, _, h, g => exact cd21 h0 (by omega) g
  | 22, _, _, h, g => exact cd22 h0 (by omega) g
  | 23, _, _, h, g => exact cd23 h0 (by omega) g
  | 24, _, _, h, g => exact cd24 h0 (by omega) g
  | 25, _, _, h, g => exact cd25 h0 (by omega) g
  | 26, _, _, h, g => exact cd26 h0 (by omega) g
  | 27, _, _, h, g => exact cd27 h0 (by omega) g
  | 28, _, _, h, g => exact cd28 h0 (by omega) g
  | 29, _, _, h, g => exact cd29 h0 (by omega) g
  | 30, _, _, h, g => exact cd30 h0 (by omega) g
  | 31, _, _, h, g => exact cd31 h0 (by omega) g
  | 32, _, _, h, g => exact cd32 h0 (by omega) g
  | 33, _, _, h, g => exact cd33 h0 (by omega) g
  | 34, _, _, h, g => exact cd34 h0 (by omega) g
  | 35, _, _, h, g => exact cd35 h0 (by omega) g
  | 36, _, _, h, g => exact cd36 h0 (by omega) g
  | 37, _, _, h, g => exact cd37 h0 (by omega) g
  | 38, _, _, h, g => exact cd38 h0 (by omega) g
  | 39, _, _, h, g => exact cd39 h0 (by omega) g
  | 40, _, _, h, g => exact cd40 h0 (by omega) g
  | 41, _, _, h, g => exact cd41 h0 (by omega) g
  | 42, _, _, h, g => exact cd42 h0 (by omega) g
  | 43, _, _, h, g => exact cd43 h0 (by omega) g
  | 44, _, _, h, g => exact cd44 h0 (by omega) g
  | 45, _, _, h, g => exact cd45 h0 (by omega) g
  | 46, _, _, h, g => exact cd46 h0 (by omega) g
  | 47, _, _, h, g => exact cd47 h0 (by omega) g
  | 48, _, _, h, g => exact cd48 h0 (by omega) g
  | 49, _, _, h, g => exact cd49 h0 (by omega) g
  | 50, _, _, h, g => exact cd50 h0 (by omega) g
  | n + 51, _, h, _, _ => omega
end Go.Proofs.YtjijfnggomhpiaaGreatDoor
namespace Go.Proofs.YtjijfnggomhpiaaGreatDoor
open Go Go.Eng Go.RowKit
def Vc (k : Nat) (N D : Int) (fr j : Nat) (f c : Int) : Prop := ∀ W, Tb W → Calls Tryz.prog 9 #[.int .i64 ((k : Nat) : Int), .agg #[S (qR N D).1, S (qR N D).2], .int .i64 ((fr : Nat) : Int), .int .i64 ((j : Nat) : Int)] W (Ret W fun v _ => v = CellV j f c)
def Ve (k : Nat) (N D : Int) (fr j : Nat) : Prop := ∀ W, Tb W → Calls Tryz.prog 9 #[.int .i64 ((k : Nat) : Int), .agg #[S (qR N D).1, S (qR N D).2], .int .i64 ((fr : Nat) : Int), .int .i64 ((j : Nat) : Int)] W (Ret W fun v _ => v = ErrV)
def Vp (k : Nat) (N D : Int) (fr pl : Nat) : Prop := ∃ f c f' c', Vc k N D fr pl f c ∧ Vc k N D fr (pl + 1) f' c' ∧ CellP pl f c f' c'
theorem cel_cells {E : Nat → Option (Int × Int)} (hN : Nst E) (h : Cel E) {pl : Nat} (hp : pl ≤ 10) : ∃ f f' : Int, FindR pl (fun k => E (pl + k)) f (f + 1) ∧ FindR (pl + 1) (fun k => E (pl + 1 + k)) f' (f' + 1) ∧ CellP pl f (f + 1) f' (f' + 1) := by
  obtain ⟨r, f, hr, h1, h2, h3⟩ := h
  obtain ⟨r', hr', hle⟩ := hN.tot 25 (by omega) (by omega)
  rw [hr] at hr'; cases hr'
  have t14 : tenI (25 - 11) = 100000000000000 := by decide
  have h4 : r.2 ≤ (f + 1) * 100000000000000 := by rcases h2 with h2 | ⟨h2, h5, _⟩ <;> omega
  have b1 : r.1.natAbs < 10 ^ 46 := by omega
  have b2 : r.2.natAbs < 10 ^ 46 := by omega
  have top : ∀ q, q ≤ 12 → ∀ r', E (q + 40) = some r' → r'.1 < (f + 1) * tenI (25 - 11) * tenI (q + 40 - 25) := by
    intro q hq r' hr'
    rcases h2 with h2 | ⟨h2, _, h5⟩
    · obtain ⟨r2, hr2, hle2⟩ := hN.tot (q + 40) (by omega) (by omega)
      rw [hr'] at hr2; cases hr2
      have i := hN.inc 25 (q + 40 - 25) r r' (by omega) (by omega) (by omega) hr (by rw [show 25 + (q + 40 - 25) = q + 40 by omega]; exact hr')
      have iu : r'.2 ≤ r.2 * tenI (q + 40 - 25) := i.hi
      have := Int.mul_lt_mul_of_pos_right h2 (ten_pos (q + 40 - 25))
      rw [t14]
      omega
    · have h6 := h5 _ r' hr'
      have e : tenI (q + 40) = (f + 1) * tenI (25 - 11) * tenI (q + 40 - 25) := by
        rw [h2, show (100000000000 : Int) = tenI 11 by decide, ← ten_add, ← ten_add]; congr 1; omega
      rw [← e]; exact h6
  have k1 := find_all hN (t := 25) (c := 11) (by omega) (by omega) (by omega) (by omega) hr b1 b2 (by rw [t14]; exact h1) (by rw [t14]; exact h4) (pl := pl) (by omega) (top pl (by omega))
  have k2 := find_all hN (t := 25) (c := 11) (by omega) (by omega) (by omega) (by omega) hr b1 b2 (by rw [t14]; exact h1) (by rw [t14]; exact h4) (pl := pl + 1) (by omega) (top (pl + 1) (by omega))
  have e : f / tenI (11 - pl) = f / tenI (11 - (pl + 1)) / 10 := by
    rw [show 11 - pl = 11 - (pl + 1) + 1 by omega, ten_s, Int.mul_comm, Int.mul_comm (10 : Int), Int.ediv_ediv_of_nonneg (Int.le_of_lt (ten_pos _))]
  have hb : (f / tenI (11 - (pl + 1))).natAbs ≤ 200000000000000000001 := by
    obtain ⟨g1, g2⟩ := flT_le (a := f) (k := 11 - (pl + 1))
    have hT := ten_pos (11 - (pl + 1))
    show (flT f (11 - (pl + 1))).natAbs ≤ _
    have m1 : flT f (11 - (pl + 1)) ≤ 200000000000000000000 := by
      rcases Int.lt_or_le 200000000000000000000 (flT f (11 - (pl + 1))) with c | c
      · have := Int.mul_le_mul_of_nonneg_left (show (1 : Int) ≤ tenI (11 - (pl + 1)) by omega) (show 0 ≤ flT f (11 - (pl + 1)) by omega)
        omega
      · exact c
    have m2 : -200000000000000000001 ≤ flT f (11 - (pl + 1)) := by
      rcases Int.lt_or_le (flT f (11 - (pl + 1))) (-200000000000000000001) with c | c
      · have := Int.mul_le_mul_of_nonpos_left (show flT f (11 - (pl + 1)) + 1 ≤ 0 by omega) (show (1 : Int) ≤ tenI (11 - (pl + 1)) by omega)
        omega
      · exact c
    omega
  rw [e] at k1
  generalize f / tenI (11 - (pl + 1)) = a at *
  exact ⟨a / 10, a, k1, k2, ⟨by omega, by omega, by omega, by omega, by omega, by omega, by omega, by omega, by omega, by omega⟩⟩
theorem red_cop {a : Int} {d : Nat} (hd : 0 < d) (hg : Int.gcd a d = 1) : redN a d = a ∧ (redD a d).toNat = d := by
  unfold redN redD
  rw [if_neg (by omega), if_neg (by omega), hg]
  simp
section
variable {a : Int} {d fr pl : Nat}
theorem vp_exp (hd : 0 < d) (hd50 : d ≤ 50) (ha : a ≠ 0) (h19 : a.natAbs ≤ 19 * d) (hg : Int.gcd a d = 1) (hC : Cel (fun k => (exP (10 ^ k) a d).map zP)) (hp : pl ≤ 10) : Vp 0 a d fr pl := by
  obtain ⟨r1, r2⟩ := red_cop hd hg
  obtain ⟨f, f', k1, k2, k3⟩ := cel_cells (nst_exp hd (by omega) (by omega) (by omega)) hC hp
  refine ⟨f, f + 1, f', f' + 1, fun W ht => value0_ok (fun W' ht' => ?_) ht, fun W ht => value0_ok (fun W' ht' => ?_) ht, k3⟩
  · exact exp_q (by omega) (by omega) (by omega) ha (by omega) (by omega) (by omega) (by unfold expBd; rw [r1, r2]; exact k1) ht'
  · exact exp_q (by omega) (by omega) (by omega) ha (by omega) (by omega) (by omega) (by unfold expBd; rw [r1, r2]; exact k2) ht'
theorem ten_big {k : Nat} (h : k ≤ 12) : (tenI k).natAbs < 10 ^ 70 := by
  have := ten_le12 h
  omega
theorem vp_exp0 (hd : 0 < d) (hd50 : d ≤ 50) (hp : pl ≤ 10) : Vp 0 0 d fr pl := by
  refine ⟨tenI pl, tenI pl, tenI (pl + 1), tenI (pl + 1), fun W ht => value0_ok (fun W' ht' => exp_z (by omega) (by omega) rfl (by omega) ht') ht, fun W ht => value0_ok (fun W' ht' => exp_z (by omega) (by omega) rfl (by omega) ht') ht, ?_⟩
  have h1 := ten_big (k := pl) (by omega)
  have h2 := ten_big (k := pl + 1) (by omega)
  have h3 := ten_s (pl := pl)
  exact ⟨h1, h1, h2, h2, by omega, by omega, by omega, by omega, by omega, by omega⟩
theorem vp_log {n : Nat} (hn : 0 < n) (hd : 0 < d) (hd50 : d ≤ 50) (h19 : n ≤ 19 * d) (hC : n ≠ d → Cel (fun k => lgB (10 ^ k) n d)) (hp : pl ≤ 10) : Vp 1 (n : Int) d fr pl := by
  by_cases he : n = d
  · refine ⟨0, 0, 0, 0, fun W ht => value1_ok (fun W' ht' => log_one hn (by omega) he (by omega) ht') ht, fun W ht => value1_ok (fun W' ht' => log_one hn (by omega) he (by omega) ht') ht, by decide, by decide, by decide, by decide, by decide, by decide, by decide, by decide, by decide, by decide⟩
  · have l1 : n ≤ 2 ^ 90 * d := Nat.le_trans h19 (Nat.mul_le_mul_right _ (by decide))
    have l2 : d ≤ 2 ^ 90 * n := Nat.le_trans hd50 (Nat.le_trans (by decide : 50 ≤ 2 ^ 90 * 1) (Nat.mul_le_mul_left _ hn))
    obtain ⟨f, f', k1, k2, k3⟩ := cel_cells (nst_log (by omega) (by omega) hn hd l1 l2) (hC he) hp
    refine ⟨f, f + 1, f', f' + 1, fun W ht => value1_ok (fun W' ht' => ?_) ht, fun W ht => value1_ok (fun W' ht' => ?_) ht, k3⟩
    · exact log_q hn (by omega) hd (by omega) he (by omega) k1 ht'
    · exact log_q hn (by omega) hd (by omega) he (by omega) k2 ht'
theorem ve_log {N : Int} (hd : 0 < d) (hd50 : d ≤ 50) (hN : N ≤ 0) (h19 : N.natAbs ≤ 19 * d) {j : Nat} (hj : j ≤ 12) : Ve 1 N d fr j := by
  intro W ht
  refine value1_ok (fun W' ht' => ?_) ht
  refine Log_ok (pl := j) (fun W b1 e _ => cell_no (lb := [.pointer (some ⟨b1, 0, none⟩)]) rfl (q9_12 (by omega) (by omega) (by omega)) (by omega) (by omega) qlog1 q9log qp13 q9p13 ?_ (ht'.ext e)) ht'
  unfold rightB
  have : cmpI (N * 10000000000000) (1 * (d : Int)) < 0 := cmpI_lt0 (by omega)
  rw [show decide (0 ≤ cmpI (N * 10000000000000) (1 * (d : Int))) = false from decide_eq_false (by omega)]
  simp
theorem vp_nrm (hd : 0 < d) (hd50 : d ≤ 50) (ha : a ≠ 0) (h19 : a.natAbs ≤ 19 * d) (hg : Int.gcd a d = 1) (hC : a.natAbs < 8 * d → Cel (fun k => nrP (10 ^ k) k a d)) (hp : pl ≤ 10) : Vp 2 a d fr pl := by
  have h1 := ten_big (k := pl) (by omega)
  have h2 := ten_big (k := pl + 1) (by omega)
  have h3 := ten_s (pl := pl)
  have h4 := ten_pos pl
  rcases Int.lt_or_le a (8 * (d : Int)) with c1 | c1
  · rcases Int.lt_or_le (-8 * (d : Int)) a with c2 | c2
    · obtain ⟨r1, r2⟩ := red_cop hd hg
      have hq : 2 * (a.natAbs * d) + 2 * (a.natAbs * a.natAbs) + d * d + d < 10 ^ 15 := by
        have n4 : a.natAbs ≤ 400 := by omega
        have m1 := Nat.mul_le_mul n4 hd50
        have m2 := Nat.mul_le_mul n4 n4
        have m3 := Nat.mul_le_mul hd50 hd50
        omega
      obtain ⟨f, f', k1, k2, k3⟩ := cel_cells (nst_nrm hd (by omega) (by omega) hq) (hC (by omega)) hp
      refine ⟨f, f + 1, f', f' + 1, fun W ht => value2_ok (fun W' ht' => ?_) ht, fun W ht => value2_ok (fun W' ht' => ?_) ht, k3⟩
      · exact normal_q (by omega) (by omega) (by omega) ha c2 c1 (by omega) (by unfold nrmBd; rw [r1, r2]; exact k1) ht'
      · exact normal_q (by omega) (by omega) (by omega) ha c2 c1 (by omega) (by unfold nrmBd; rw [r1, r2]; exact k2) ht'
    · refine ⟨0, 1, 0, 1, fun W ht => value2_ok (fun W' ht' => normal_lo (by omega) (by omega) (by omega) c2 (by omega) (by omega) ht') ht, fun W ht => value2_ok (fun W' ht' => normal_lo (by omega) (by omega) (by omega) c2 (by omega) (by omega) ht') ht, by decide, by decide, by decide, by decide, by decide, by decide, by decide, by decide, by decide, by decide⟩
  · refine ⟨tenI pl - 1, tenI pl, tenI (pl + 1) - 1, tenI (pl + 1), fun W ht => value2_ok (fun W' ht' => normal_hi (by omega) (by omega) (by omega) c1 (by omega) (by omega) ht') ht, fun W ht => value2_ok (fun W' ht' => normal_hi (by omega) (by omega) (by omega) c1 (by omega) (by omega) ht') ht, ?_⟩
    exact ⟨by omega, h1, by omega, h2, by omega, by omega, by omega, by omega, by omega, by omega⟩
theorem half_val {j : Nat} : flI 1 2 (tenI (j + 1)) = 5 * tenI j ∧ clI 1 2 (tenI (j + 1)) = 5 * tenI j := by
  unfold flI clI
  rw [ten_s, show 1 * (tenI j * 10) = 2 * (5 * tenI j) by omega, Int.mul_ediv_cancel_left _ (by decide), Int.mul_emod_right, if_pos rfl]
  exact ⟨rfl, rfl⟩
theorem vp_nrm0 (hd : 0 < d) (hd50 : d ≤ 50) (hp : pl ≤ 10) : Vp 2 0 d fr pl := by
  refine ⟨_, _, _, _, fun W ht => value2_ok (fun W' ht' => normal_z (by omega) (by omega) rfl (by omega) ht') ht, fun W ht => value2_ok (fun W' ht' => normal_z (by omega) (by omega) rfl (by omega) ht') ht, ?_⟩
  cases pl with
  | zero =>
    have e1 : flI 1 2 (tenI 0) = 0 := by decide
    have e2 : clI 1 2 (tenI 0) = 1 := by decide
    have e3 : flI 1 2 (tenI (0 + 1)) = 5 := by decide
    have e4 : clI 1 2 (tenI (0 + 1)) = 5 := by decide
    rw [e1, e2, e3, e4]
    exact ⟨by decide, by decide, by decide, by decide, by decide, by decide, by decide, by decide, by decide, by decide⟩
  | succ j =>
    have g1 := ten_big (k := j) (by omega)
    have g2 := ten_le12 (pl := j) (by omega)
    obtain ⟨e1, e2⟩ := half_val (j := j)
    obtain ⟨e3, e4⟩ := half_val (j := j + 1)
    rw [e1, e2, e3, e4]
    have h3 := ten_s (pl := j)
    exact ⟨by omega, by omega, by omega, by omega, by omega, by omega, by omega, by omega, by omega, by omega⟩
theorem vp_chi {n : Nat} (h1 : 0 < fr) (h20 : fr ≤ 20) (hn : 0 < n) (hd : 0 < d) (hd50 : d ≤ 50) (h19 : n ≤ 19 * d) (hC : Cel (fun k => tlP (10 ^ k) k n d fr)) (hp : pl ≤ 10) : Vp 3 (n : Int) d fr pl := by
  obtain ⟨f, f', k1, k2, k3⟩ := cel_cells (nst_chi h1 h20 hn (by omega) hd (by omega) (by omega)) hC hp
  refine ⟨f, f + 1, f', f' + 1, fun W ht => value3_ok (fun W' ht' => ?_) ht, fun W ht => value3_ok (fun W' ht' => ?_) ht, k3⟩
  · exact chi_q h1 h20 hn (by omega) hd (by omega) (by omega) (by omega) k1 ht'
  · exact chi_q h1 h20 hn (by omega) hd (by omega) (by omega) (by omega) k2 ht'
theorem chi_z {W : World} {j : Nat} (h1 : 0 < fr) (h20 : fr ≤ 20) (hd : 0 < d) (hd50 : d ≤ 50) (hj : j ≤ 12) (ht : Tb W) : Calls Tryz.prog 15 #[.agg #[S (qR 0 (d : Int)).1, S (qR 0 (d : Int)).2], .int .i64 ((fr : Nat) : Int), .int .i64 ((j : Nat) : Int)] W (Ret W fun v _ => v = CellV j (tenI j) (tenI j)) := by
  have q := q9_12 (a := 0) (b := (d : Int)) (by decide) (by omega) (by omega)
  refine Chi_ok h1 h20 (fun W b1 e hB => ?_) ht
  exact cell_at2 (lb := [.pointer (some ⟨b1, 0, none⟩)]) ten_fl.1 ten_fl.2 rfl q (by decide) (by omega) q01 q9l0 q100 q9_100 q11 q9l1 (rightB_ok hj (by omega) (by omega)) hj (zero_q (by omega) rfl) (ht.ext e)
theorem vp_chi0 (h1 : 0 < fr) (h20 : fr ≤ 20) (hd : 0 < d) (hd50 : d ≤ 50) (hp : pl ≤ 10) : Vp 3 0 d fr pl := by
  refine ⟨tenI pl, tenI pl, tenI (pl + 1), tenI (pl + 1), fun W ht => value3_ok (fun W' ht' => chi_z h1 h20 hd hd50 (by omega) ht') ht, fun W ht => value3_ok (fun W' ht' => chi_z h1 h20 hd hd50 (by omega) ht') ht, ?_⟩
  have h1 := ten_big (k := pl) (by omega)
  have h2 := ten_big (k := pl + 1) (by omega)
  have h3 := ten_s (pl := pl)
  exact ⟨h1, h1, h2, h2, by omega, by omega, by omega, by omega, by omega, by omega⟩
theorem ve_chi {N : Int} (h1 : 0 < fr) (h20 : fr ≤ 20) (hd : 0 < d) (hd50 : d ≤ 50) (hN : N < 0) (h19 : N.natAbs ≤ 19 * d) {j : Nat} (hj : j ≤ 12) : Ve 3 N d fr j := by
  intro W ht
  refine value3_ok (fun W' ht' => ?_) ht
  refine Chi_ok h1 h20 (fun W b1 e _ => cell_no (lb := [.pointer (some ⟨b1, 0, none⟩)]) rfl (q9_12 (by omega) (by omega) (by omega)) (by omega) (by omega) q01 q9l0 q100 q9_100 ?_ (ht'.ext e)) ht'
  unfold rightB
  have : cmpI (N * 1) (0 * (d : Int)) < 0 := cmpI_lt0 (by omega)
  rw [show decide (0 ≤ cmpI (N * 1) (0 * (d : Int))) = false from decide_eq_false (by omega)]
  simp
end
theorem kinds {a : Int} {d fr pl : Nat} (h1 : 0 < fr) (h20 : fr ≤ 20) (hd : 0 < d) (hd50 : d ≤ 50) (h19 : a.natAbs ≤ 19 * d) (hg : Int.gcd a d = 1) (hp : pl ≤ 10) :
    ∀ k, k < 4 → Vp k a d fr pl ∨ (k ≠ 0 ∧ k ≠ 2 ∧ a ≤ 0 ∧ Ve k a d fr pl ∧ Ve k a d fr (pl + 1)) := by
  intro k hk
  have hgn : Nat.gcd a.natAbs d = 1 := hg
  rcases Int.lt_trichotomy a 0 with c | c | c
  · have hR := ce_all (n := a.natAbs) (d := d) (by omega) hd hd50 h19 hgn
    have ea : a = -((a.natAbs : Nat) : Int) := by omega
    match k, hk with
    | 0, _ => exact Or.inl (vp_exp hd hd50 (by omega) h19 hg (by rw [ea]; exact hR.exn) hp)
    | 1, _ => exact Or.inr ⟨by decide, by decide, by omega, ve_log hd hd50 (by omega) h19 (by omega), ve_log hd hd50 (by omega) h19 (by omega)⟩
    | 2, _ => exact Or.inl (vp_nrm hd hd50 (by omega) h19 hg (fun h8 => by rw [ea]; exact hR.nrn h8) hp)
    | 3, _ => exact Or.inr ⟨by decide, by decide, by omega, ve_chi h1 h20 hd hd50 c h19 (by omega), ve_chi h1 h20 hd hd50 c h19 (by omega)⟩
  · subst c
    match k, hk with
    | 0, _ => exact Or.inl (vp_exp0 hd hd50 hp)
    | 1, _ => exact Or.inr ⟨by decide, by decide, by omega, ve_log hd hd50 (by omega) h19 (by omega), ve_log hd hd50 (by omega) h19 (by omega)⟩
    | 2, _ => exact Or.inl (vp_nrm0 hd hd50 hp)
    | 3, _ => exact Or.inl (vp_chi0 h1 h20 hd hd50 hp)
  · have hR := ce_all (n := a.natAbs) (d := d) (by omega) hd hd50 h19 hgn
    have ea : a = ((a.natAbs : Nat) : Int) := by omega
    match k, hk with
    | 0, _ => exact Or.inl (vp_exp hd hd50 (by omega) h19 hg (by rw [ea]; exact hR.ex) hp)
    | 1, _ => rw [ea]; exact Or.inl (vp_log (by omega) hd hd50 h19 hR.lg hp)
    | 2, _ => exact Or.inl (vp_nrm hd hd50 (by omega) h19 hg (fun h8 => by rw [ea]; exact hR.nr h8) hp)
    | 3, _ => rw [ea]; exact Or.inl (vp_chi h1 h20 (by omega) hd hd50 h19 (hR.ch fr h1 h20) hp)
theorem specialCells_law {x0 x1 y0 y1 : Int} {w : World} (hx0 : In64 x0) (hx1 : In64 x1) (hy0 : In64 y0) (hy1 : In64 y1) (ht : Tb w) :
    Calls Tryz.prog 3 #[.agg #[.int .i64 x0, .int .i64 x1], .int .i64 y0, .int .i64 y1] w (Ret w fun v _ => v = .bool true) := by
  have bd := pick_bd x1 50 (by decide)
  have bf := pick_bd y0 20 (by decide)
  have bp := pick_bd y1 11 (by decide)
  obtain ⟨D, hD⟩ : ∃ D, 1 + pickI x1 50 = D := ⟨_, rfl⟩
  have bn := pick_bd x0 (2 * (19 * D) + 1) (by omega)
  obtain ⟨N, hN⟩ : ∃ N, pickI x0 (2 * (19 * D) + 1) - 19 * D = N := ⟨_, rfl⟩
  obtain ⟨fr, hfr⟩ : ∃ fr : Nat, 1 + pickI y0 20 = (fr : Int) := ⟨(1 + pickI y0 20).toNat, by omega⟩
  obtain ⟨pl, hpl⟩ : ∃ pl : Nat, pickI y1 11 = (pl : Int) := ⟨(pickI y1 11).toNat, by omega⟩
  have hD0 : 0 < D := by omega
  have g0 := rq_pos (n := N) hD0
  have gg := rq_gcd (n := N) hD0
  have gn := rq_n (n := N) hD0
  have gd := rq_d (n := N) hD0
  have gq : qR N D = qR (redN N D) (redD N D) := qR_congr hD0 g0 (rq_cross hD0).symm
  have gp : 0 < ((Int.gcd N D : Nat) : Int) := by
    have : 0 < Int.gcd N D := Int.gcd_pos_of_ne_zero_right _ (by omega)
    omega
  obtain ⟨d, hd⟩ : ∃ d : Nat, redD N D = (d : Int) := ⟨(redD N D).toNat, by omega⟩
  rw [hd] at gg gd gq g0
  generalize redN N D = a at *
  generalize ((Int.gcd N D : Nat) : Int) = g at *
  have hd50 : d ≤ 50 := by
    have := Int.mul_le_mul_of_nonneg_left (show (1 : Int) ≤ g by omega) (show (0 : Int) ≤ d by omega)
    omega
  have h19 : a.natAbs ≤ 19 * d := by
    have m1 : a * g ≤ 19 * (d : Int) * g := by rw [Int.mul_assoc, gd, gn]; omega
    have m2 : -(19 * (d : Int)) * g ≤ a * g := by rw [Int.neg_mul, Int.mul_assoc, gd, gn]; omega
    have := Int.le_of_mul_le_mul_right m1 gp
    have := Int.le_of_mul_le_mul_right m2 gp
    omega
  have sg : a ≤ 0 → N ≤ 0 := fun h => by
    have := Int.mul_le_mul_of_nonneg_right h (Int.le_of_lt gp)
    omega
  have K := kinds (fr := fr) (pl := pl) (by omega) (by omega) (by omega) hd50 h19 gg (by omega)
  have eV : ∀ k j f c, Vc k N D fr j f c ↔ Vc k a d fr j f c := fun k j f c => by unfold Vc; rw [gq]
  have eE : ∀ k j, Ve k N D fr j ↔ Ve k a d fr j := fun k j => by unfold Ve; rw [gq]
  classical
  let G : Nat → Option (Int × Int × Int × Int) := fun k => if h : Vp k a d fr pl then some (Classical.choose h, Classical.choose (Classical.choose_spec h), Classical.choose (Classical.choose_spec (Classical.choose_spec h)), Classical.choose (Classical.choose_spec (Classical.choose_spec (Classical.choose_spec h)))) else none
  have hG1 : ∀ k, (G k).isSome = true → Vc k a d fr pl ((G k).getD (0, 0, 0, 0)).1 ((G k).getD (0, 0, 0, 0)).2.1 ∧ Vc k a d fr (pl + 1) ((G k).getD (0, 0, 0, 0)).2.2.1 ((G k).getD (0, 0, 0, 0)).2.2.2 ∧ CellP pl ((G k).getD (0, 0, 0, 0)).1 ((G k).getD (0, 0, 0, 0)).2.1 ((G k).getD (0, 0, 0, 0)).2.2.1 ((G k).getD (0, 0, 0, 0)).2.2.2 := by
    intro k h
    by_cases hv : Vp k a d fr pl
    · have e : G k = some (Classical.choose hv, Classical.choose (Classical.choose_spec hv), Classical.choose (Classical.choose_spec (Classical.choose_spec hv)), Classical.choose (Classical.choose_spec (Classical.choose_spec (Classical.choose_spec hv)))) := dif_pos hv
      rw [e]
      exact Classical.choose_spec (Classical.choose_spec (Classical.choose_spec (Classical.choose_spec hv)))
    · have e : G k = none := dif_neg hv
      rw [e] at h; cases h
  have hG0 : ∀ k, k < 4 → (G k).isSome = false → k ≠ 0 ∧ k ≠ 2 ∧ a ≤ 0 ∧ Ve k a d fr pl ∧ Ve k a d fr (pl + 1) := by
    intro k hk h
    rcases K k hk with hv | hv
    · have e : G k = some (Classical.choose hv, Classical.choose (Classical.choose_spec hv), Classical.choose (Classical.choose_spec (Classical.choose_spec hv)), Classical.choose (Classical.choose_spec (Classical.choose_spec (Classical.choose_spec hv)))) := dif_pos hv
      rw [e] at h; cases h
    · exact hv
  clear_value G
  refine cells_walk (ok := fun k => (G k).isSome) (F := fun k j => if j = pl then ((G k).getD (0, 0, 0, 0)).1 else ((G k).getD (0, 0, 0, 0)).2.2.1) (C := fun k j => if j = pl then ((G k).getD (0, 0, 0, 0)).2.1 else ((G k).getD (0, 0, 0, 0)).2.2.2)
    hx0 hx1 hy0 hy1 hD hN hfr hpl (q9_12 (by omega) hD0 (by omega)) (by omega) ?_ ?_ ?_ ?_ ht
  · intro k hk h j hj W hW
    obtain ⟨v1, v2, _⟩ := hG1 k h
    rcases hj with e | e
    · subst e
      rw [if_pos rfl, if_pos rfl]
      exact (eV _ _ _ _).2 v1 W hW
    · subst e
      rw [if_neg (by omega), if_neg (by omega)]
      exact (eV _ _ _ _).2 v2 W hW
  · intro k hk h j hj W hW
    obtain ⟨_, _, _, v1, v2⟩ := hG0 k hk h
    rcases hj with e | e
    · subst e; exact (eE _ _).2 v1 W hW
    · subst e; exact (eE _ _).2 v2 W hW
  · intro k hk h
    simp only [if_true, if_neg (show ¬ pl + 1 = pl by omega)]
    exact (hG1 k h).2.2
  · intro k hk h
    obtain ⟨h1, h2, h3, _, _⟩ := hG0 k hk h
    exact ⟨h1, h2, sg h3⟩
end Go.Proofs.YtjijfnggomhpiaaGreatDoor
