/- Part of the proof of a statement about the special functions. -/
import Derived.Test.YteojhdahhaodoaaGreatDoorCardAToNmK
set_option linter.all false
namespace Go.Proofs.YteojhdahhaodoaaGreatDoor
open Go Go.Eng Go.RowKit
theorem nmc3 : rootP 1000000000000000000 (byP (piN 18, piN 18 + 1) 2 1) = some (2506628274631000502, 2506628274631000503) := by decide +kernel
def nmk3 : Nat → Nat → (Nat → Nat → Bool) → Bool := nmCk 1000000000000000000 999999999999999999 500000000000000000 2506628274631000502 2506628274631000503
theorem nm3_0 : farK nmk3 ⟨25, 48, 12, 23, 698, 699⟩ 400 1 50 1 49 500 500 = true := by decide +kernel
theorem nm3_1 : farK nmk3 ⟨51, 49, 25, 24, 850, 851⟩ 400 25 48 12 23 698 699 = true := by decide +kernel
theorem nm3_2 : farK nmk3 ⟨45, 29, 59, 38, 939, 940⟩ 400 51 49 25 24 850 851 = true := by decide +kernel
theorem nm3_3 : farK nmk3 ⟨89, 43, 29, 14, 980, 981⟩ 400 45 29 59 38 939 940 = true := by decide +kernel
theorem nm3_4 : farK nmk3 ⟨75, 29, 119, 46, 995, 996⟩ 400 89 43 29 14 980 981 = true := by decide +kernel
theorem nm3_5 : farK nmk3 ⟨149, 48, 59, 19, 999, 1000⟩ 400 75 29 119 46 995 996 = true := by decide +kernel
theorem nm3_6 : farK nmk3 ⟨76, 21, 181, 50, 999, 1000⟩ 400 149 48 59 19 999 1000 = true := by decide +kernel
theorem nm3_7 : farK nmk3 ⟨120, 29, 149, 36, 999, 1000⟩ 400 76 21 181 50 999 1000 = true := by decide +kernel
theorem nm3_8 : farK nmk3 ⟨200, 43, 107, 23, 999, 1000⟩ 400 120 29 149 36 999 1000 = true := by decide +kernel
theorem nm3_9 : farK nmk3 ⟨181, 35, 150, 29, 999, 1000⟩ 400 200 43 107 23 999 1000 = true := by decide +kernel
theorem nm3_10 : farK nmk3 ⟨199, 35, 91, 16, 999, 1000⟩ 400 181 35 150 29 999 1000 = true := by decide +kernel
theorem nm3_11 : farK nmk3 ⟨242, 39, 211, 34, 999, 1000⟩ 400 199 35 91 16 999 1000 = true := by decide +kernel
theorem nm3_12 : farK nmk3 ⟨168, 25, 289, 43, 999, 1000⟩ 400 242 39 211 34 999 1000 = true := by decide +kernel
theorem nm3_13 : farK nmk3 ⟨275, 38, 152, 21, 999, 1000⟩ 400 168 25 289 43 999 1000 = true := by decide +kernel
theorem nm3_14 : farK nmk3 ⟨349, 45, 318, 41, 999, 1000⟩ 400 275 38 152 21 999 1000 = true := by decide +kernel
theorem nm3_15 : farK nmk3 ⟨8, 1, 401, 50, 999, 1000⟩ 191 349 45 318 41 999 1000 = true := by decide +kernel
theorem nmt3 : TabR 3 := by
  have hck : ∀ n d K, 0 < n → 0 < d → d ≤ 50 → nmk3 n d K = true → ∃ f c, PosR 3 n d f c ∧ K f c = true := fun n d K h1 h2 _ hk => nmCk_ok (by decide) (by decide +kernel) (by decide +kernel) (by decide +kernel) nmc3 (by decide +kernel) h1 h2 hk
  have i0 : FInv ⟨1, 50, 1, 49, 500, 500⟩ := ⟨by decide, by decide, by decide, by decide, by decide, by decide, by decide⟩
  obtain ⟨i1, s1⟩ := far_ok hck i0 nm3_0
  obtain ⟨i2, s2⟩ := far_ok hck i1 nm3_1
  have s2 := s1.trans s2 ⟨i0.b1, i1.b1, i2.b1⟩
  obtain ⟨i3, s3⟩ := far_ok hck i2 nm3_2
  have s3 := s2.trans s3 ⟨i0.b1, i2.b1, i3.b1⟩
  obtain ⟨i4, s4⟩ := far_ok hck i3 nm3_3
  have s4 := s3.trans s4 ⟨i0.b1, i3.b1, i4.b1⟩
  obtain ⟨i5, s5⟩ := far_ok hck i4 nm3_4
  have s5 := s4.trans s5 ⟨i0.b1, i4.b1, i5.b1⟩
  obtain ⟨i6, s6⟩ := far_ok hck i5 nm3_5
  have s6 := s5.trans s6 ⟨i0.b1, i5.b1, i6.b1⟩
  obtain ⟨i7, s7⟩ := far_ok hck i6 nm3_6
  have s7 := s6.trans s7 ⟨i0.b1, i6.b1, i7.b1⟩
  obtain ⟨i8, s8⟩ := far_ok hck i7 nm3_7
  have s8 := s7.trans s8 ⟨i0.b1, i7.b1, i8.b1⟩
  obtain ⟨i9, s9⟩ := far_ok hck i8 nm3_8
  have s9 := s8.trans s9 ⟨i0.b1, i8.b1, i9.b1⟩
  obtain ⟨i10, s10⟩ := far_ok hck i9 nm3_9
  have s10 := s9.trans s10 ⟨i0.b1, i9.b1, i10.b1⟩
  obtain ⟨i11, s11⟩ := far_ok hck i10 nm3_10
  have s11 := s10.trans s11 ⟨i0.b1, i10.b1, i11.b1⟩
  obtain ⟨i12, s12⟩ := far_ok hck i11 nm3_11
  have s12 := s11.trans s12 ⟨i0.b1, i11.b1, i12.b1⟩
  obtain ⟨i13, s13⟩ := far_ok hck i12 nm3_12
  have s13 := s12.trans s13 ⟨i0.b1, i12.b1, i13.b1⟩
  obtain ⟨i14, s14⟩ := far_ok hck i13 nm3_13
  have s14 := s13.trans s14 ⟨i0.b1, i13.b1, i14.b1⟩
  obtain ⟨i15, s15⟩ := far_ok hck i14 nm3_14
  have s15 := s14.trans s15 ⟨i0.b1, i14.b1, i15.b1⟩
  obtain ⟨i16, s16⟩ := far_ok hck i15 nm3_15
  have s16 := s15.trans s16 ⟨i0.b1, i15.b1, i16.b1⟩
  exact ⟨_, s16, by decide, by decide, by decide, by decide⟩
theorem nmc4 : rootP 10000000000000000000 (byP (piN 19, piN 19 + 1) 2 1) = some (25066282746310005023, 25066282746310005025) := by decide +kernel
def nmk4 : Nat → Nat → (Nat → Nat → Bool) → Bool := nmCk 10000000000000000000 9999999999999999999 5000000000000000000 25066282746310005023 25066282746310005025
theorem nm4_0 : farK nmk4 ⟨25, 48, 12, 23, 6984, 6985⟩ 400 1 50 1 49 5000 5000 = true := by decide +kernel
theorem nm4_1 : farK nmk4 ⟨51, 49, 25, 24, 8508, 8509⟩ 400 25 48 12 23 6984 6985 = true := by decide +kernel
theorem nm4_2 : farK nmk4 ⟨45, 29, 59, 38, 9395, 9396⟩ 400 51 49 25 24 8508 8509 = true := by decide +kernel
theorem nm4_3 : farK nmk4 ⟨89, 43, 29, 14, 9807, 9808⟩ 400 45 29 59 38 9395 9396 = true := by decide +kernel
theorem nm4_4 : farK nmk4 ⟨75, 29, 119, 46, 9951, 9952⟩ 400 89 43 29 14 9807 9808 = true := by decide +kernel
theorem nm4_5 : farK nmk4 ⟨149, 48, 59, 19, 9990, 9991⟩ 400 75 29 119 46 9951 9952 = true := by decide +kernel
theorem nm4_6 : farK nmk4 ⟨76, 21, 181, 50, 9998, 9999⟩ 400 149 48 59 19 9990 9991 = true := by decide +kernel
theorem nm4_7 : farK nmk4 ⟨120, 29, 149, 36, 9999, 10000⟩ 400 76 21 181 50 9998 9999 = true := by decide +kernel
theorem nm4_8 : farK nmk4 ⟨200, 43, 107, 23, 9999, 10000⟩ 400 120 29 149 36 9999 10000 = true := by decide +kernel
theorem nm4_9 : farK nmk4 ⟨181, 35, 150, 29, 9999, 10000⟩ 400 200 43 107 23 9999 10000 = true := by decide +kernel
theorem nm4_10 : farK nmk4 ⟨199, 35, 91, 16, 9999, 10000⟩ 400 181 35 150 29 9999 10000 = true := by decide +kernel
theorem nm4_11 : farK nmk4 ⟨242, 39, 211, 34, 9999, 10000⟩ 400 199 35 91 16 9999 10000 = true := by decide +kernel
theorem nm4_12 : farK nmk4 ⟨168, 25, 289, 43, 9999, 10000⟩ 400 242 39 211 34 9999 10000 = true := by decide +kernel
theorem nm4_13 : farK nmk4 ⟨275, 38, 152, 21, 9999, 10000⟩ 400 168 25 289 43 9999 10000 = true := by decide +kernel
theorem nm4_14 : farK nmk4 ⟨349, 45, 318, 41, 9999, 10000⟩ 400 275 38 152 21 9999 10000 = true := by decide +kernel
theorem nm4_15 : farK nmk4 ⟨8, 1, 401, 50, 9999, 10000⟩ 191 349 45 318 41 9999 10000 = true := by decide +kernel
theorem nmt4 : TabR 4 := by
  have hck : ∀ n d K, 0 < n → 0 < d → d ≤ 50 → nmk4 n d K = true → ∃ f c, PosR 4 n d f c ∧ K f c = true := fun n d K h1 h2 _ hk => nmCk_ok (by decide) (by decide +kernel) (by decide +kernel) (by decide +kernel) nmc4 (by decide +kernel) h1 h2 hk
  have i0 : FInv ⟨1, 50, 1, 49, 5000, 5000⟩ := ⟨by decide, by decide, by decide, by decide, by decide, by decide, by decide⟩
  obtain ⟨i1, s1⟩ := far_ok hck i0 nm4_0
  obtain ⟨i2, s2⟩ := far_ok hck i1 nm4_1
  have s2 := s1.trans s2 ⟨i0.b1, i1.b1, i2.b1⟩
  obtain ⟨i3, s3⟩ := far_ok hck i2 nm4_2
  have s3 := s2.trans s3 ⟨i0.b1, i2.b1, i3.b1⟩
  obtain ⟨i4, s4⟩ := far_ok hck i3 nm4_3
  have s4 := s3.trans s4 ⟨i0.b1, i3.b1, i4.b1⟩
  obtain ⟨i5, s5⟩ := far_ok hck i4 nm4_4
  have s5 := s4.trans s5 ⟨i0.b1, i4.b1, i5.b1⟩
  obtain ⟨i6, s6⟩ := far_ok hck i5 nm4_5
  have s6 := s5.trans s6 ⟨i0.b1, i5.b1, i6.b1⟩
  obtain ⟨i7, s7⟩ := far_ok hck i6 nm4_6
  have s7 := s6.trans s7 ⟨i0.b1, i6.b1, i7.b1⟩
  obtain ⟨i8, s8⟩ := far_ok hck i7 nm4_7
  have s8 := s7.trans s8 ⟨i0.b1, i7.b1, i8.b1⟩
  obtain ⟨i9, s9⟩ := far_ok hck i8 nm4_8
  have s9 := s8.trans s9 ⟨i0.b1, i8.b1, i9.b1⟩
  obtain ⟨i10, s10⟩ := far_ok hck i9 nm4_9
  have s10 := s9.trans s10 ⟨i0.b1, i9.b1, i10.b1⟩
  obtain ⟨i11, s11⟩ := far_ok hck i10 nm4_10
  have s11 := s10.trans s11 ⟨i0.b1, i10.b1, i11.b1⟩
  obtain ⟨i12, s12⟩ := far_ok hck i11 nm4_11
  have s12 := s11.trans s12 ⟨i0.b1, i11.b1, i12.b1⟩
  obtain ⟨i13, s13⟩ := far_ok hck i12 nm4_12
  have s13 := s12.trans s13 ⟨i0.b1, i12.b1, i13.b1⟩
  obtain ⟨i14, s14⟩ := far_ok hck i13 nm4_13
  have s14 := s13.trans s14 ⟨i0.b1, i13.b1, i14.b1⟩
  obtain ⟨i15, s15⟩ := far_ok hck i14 nm4_14
  have s15 := s14.trans s15 ⟨i0.b1, i14.b1, i15.b1⟩
  obtain ⟨i16, s16⟩ := far_ok hck i15 nm4_15
  have s16 := s15.trans s16 ⟨i0.b1, i15.b1, i16.b1⟩
  exact ⟨_, s16, by decide, by decide, by decide, by decide⟩
theorem nmc11 : rootP 100000000000000000000000000 (byP (piN 26, piN 26 + 1) 2 1) = some (250662827463100050241576528, 250662827463100050241576529) := by decide +kernel
def nmk11 : Nat → Nat → (Nat → Nat → Bool) → Bool := nmCk 100000000000000000000000000 99999999999999999999999999 50000000000000000000000000 250662827463100050241576528 250662827463100050241576529
theorem nm11_0 : farK nmk11 ⟨25, 48, 12, 23, 69846821245, 69846821246⟩ 400 1 50 1 49 50000000000 50000000000 = true := by decide +kernel
theorem nm11_1 : farK nmk11 ⟨51, 49, 25, 24, 85083004966, 85083004967⟩ 400 25 48 12 23 69846821245 69846821246 = true := by decide +kernel
theorem nm11_2 : farK nmk11 ⟨45, 29, 59, 38, 93955160334, 93955160335⟩ 400 51 49 25 24 85083004966 85083004967 = true := by decide +kernel
theorem nm11_3 : farK nmk11 ⟨89, 43, 29, 14, 98072533867, 98072533868⟩ 400 45 29 59 38 93955160334 93955160335 = true := by decide +kernel
theorem nm11_4 : farK nmk11 ⟨75, 29, 119, 46, 99513621411, 99513621412⟩ 400 89 43 29 14 98072533867 98072533868 = true := by decide +kernel
theorem nm11_5 : farK nmk11 ⟨149, 48, 59, 19, 99904360166, 99904360167⟩ 400 75 29 119 46 99513621411 99513621412 = true := by decide +kernel
theorem nm11_6 : farK nmk11 ⟨76, 21, 181, 50, 99985135329, 99985135330⟩ 400 149 48 59 19 99904360166 99904360167 = true := by decide +kernel
theorem nm11_7 : farK nmk11 ⟨120, 29, 149, 36, 99998235735, 99998235736⟩ 400 76 21 181 50 99985135329 99985135330 = true := by decide +kernel
theorem nm11_8 : farK nmk11 ⟨200, 43, 107, 23, 99999834032, 99999834033⟩ 400 120 29 149 36 99998235735 99998235736 = true := by decide +kernel
theorem nm11_9 : farK nmk11 ⟨181, 35, 150, 29, 99999988341, 99999988342⟩ 400 200 43 107 23 99999834032 99999834033 = true := by decide +kernel
theorem nm11_10 : farK nmk11 ⟨199, 35, 91, 16, 99999999342, 99999999343⟩ 400 181 35 150 29 99999988341 99999988342 = true := by decide +kernel
theorem nm11_11 : farK nmk11 ⟨242, 39, 211, 34, 99999999972, 99999999973⟩ 400 199 35 91 16 99999999342 99999999343 = true := by decide +kernel
theorem nm11_12 : farK nmk11 ⟨168, 25, 289, 43, 99999999999, 100000000000⟩ 400 242 39 211 34 99999999972 99999999973 = true := by decide +kernel
theorem nm11_13 : farK nmk11 ⟨275, 38, 152, 21, 99999999999, 100000000000⟩ 400 168 25 289 43 99999999999 100000000000 = true := by decide +kernel
theorem nm11_14 : farK nmk11 ⟨349, 45, 318, 41, 99999999999, 100000000000⟩ 400 275 38 152 21 99999999999 100000000000 = true := by decide +kernel
theorem nm11_15 : farK nmk11 ⟨8, 1, 401, 50, 99999999999, 100000000000⟩ 191 349 45 318 41 99999999999 100000000000 = true := by decide +kernel
theorem nmt11 : TabR 11 := by
  have hck : ∀ n d K, 0 < n → 0 < d → d ≤ 50 → nmk11 n d K = true → ∃ f c, PosR 11 n d f c ∧ K f c = true := fun n d K h1 h2 _ hk => nmCk_ok (by decide) (by decide +kernel) (by decide +kernel) (by decide +kernel) nmc11 (by decide +kernel) h1 h2 hk
  have i0 : FInv ⟨1, 50, 1, 49, 50000000000, 50000000000⟩ := ⟨by decide, by decide, by decide, by decide, by decide, by decide, by decide⟩
  obtain ⟨i1, s1⟩ := far_ok hck i0 nm11_0
  obtain ⟨i2, s2⟩ := far_ok hck i1 nm11_1
  have s2 := s1.trans s2 ⟨i0.b1, i1.b1, i2.b1⟩
  obtain ⟨i3, s3⟩ := far_ok hck i2 nm11_2
  have s3 := s2.trans s3 ⟨i0.b1, i2.b1, i3.b1⟩
  obtain ⟨i4, s4⟩ := far_ok hck i3 nm11_3
  have s4 := s3.trans s4 ⟨i0.b1, i3.b1, i4.b1⟩
  obtain ⟨i5, s5⟩ := far_ok hck i4 nm11_4
  have s5 := s4.trans s5 ⟨i0.b1, i4.b1, i5.b1⟩
  obtain ⟨i6, s6⟩ := far_ok hck i5 nm11_5
  have s6 := s5.trans s6 ⟨i0.b1, i5.b1, i6.b1⟩
  obtain ⟨i7, s7⟩ := far_ok hck i6 nm11_6
  have s7 := s6.trans s7 ⟨i0.b1, i6.b1, i7.b1⟩
  obtain ⟨i8, s8⟩ := far_ok hck i7 nm11_7
  have s8 := s7.trans s8 ⟨i0.b1, i7.b1, i8.b1⟩
  obtain ⟨i9, s9⟩ := far_ok hck i8 nm11_8
  have s9 := s8.trans s9 ⟨i0.b1, i8.b1, i9.b1⟩
  obtain ⟨i10, s10⟩ := far_ok hck i9 nm11_9
  have s10 := s9.trans s10 ⟨i0.b1, i9.b1, i10.b1⟩
  obtain ⟨i11, s11⟩ := far_ok hck i10 nm11_10
  have s11 := s10.trans s11 ⟨i0.b1, i10.b1, i11.b1⟩
  obtain ⟨i12, s12⟩ := far_ok hck i11 nm11_11
  have s12 := s11.trans s12 ⟨i0.b1, i11.b1, i12.b1⟩
  obtain ⟨i13, s13⟩ := far_ok hck i12 nm11_12
  have s13 := s12.trans s13 ⟨i0.b1, i12.b1, i13.b1⟩
  obtain ⟨i14, s14⟩ := far_ok hck i13 nm11_13
  have s14 := s13.trans s14 ⟨i0.b1, i13.b1, i14.b1⟩
  obtain ⟨i15, s15⟩ := far_ok hck i14 nm11_14
  have s15 := s14.trans s15 ⟨i0.b1, i14.b1, i15.b1⟩
  obtain ⟨i16, s16⟩ := far_ok hck i15 nm11_15
  have s16 := s15.trans s16 ⟨i0.b1, i15.b1, i16.b1⟩
  exact ⟨_, s16, by decide, by decide, by decide, by decide⟩
end Go.Proofs.YteojhdahhaodoaaGreatDoor
