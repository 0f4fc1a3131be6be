/- Part of the proof of a statement about the special functions. -/
import Derived.Test.YteojhdahhaodoaaGreatDoorCardAToNmK
set_option linter.all false
namespace Go.Proofs.YteojhdahhaodoaaGreatDoor
open Go Go.Eng Go.RowKit
theorem nmc5 : rootP 100000000000000000000 (byP (piN 20, piN 20 + 1) 2 1) = some (250662827463100050241, 250662827463100050242) := by decide +kernel
def nmk5 : Nat → Nat → (Nat → Nat → Bool) → Bool := nmCk 100000000000000000000 99999999999999999999 50000000000000000000 250662827463100050241 250662827463100050242
theorem nm5_0 : farK nmk5 ⟨25, 48, 12, 23, 69846, 69847⟩ 400 1 50 1 49 50000 50000 = true := by decide +kernel
theorem nm5_1 : farK nmk5 ⟨51, 49, 25, 24, 85083, 85084⟩ 400 25 48 12 23 69846 69847 = true := by decide +kernel
theorem nm5_2 : farK nmk5 ⟨45, 29, 59, 38, 93955, 93956⟩ 400 51 49 25 24 85083 85084 = true := by decide +kernel
theorem nm5_3 : farK nmk5 ⟨89, 43, 29, 14, 98072, 98073⟩ 400 45 29 59 38 93955 93956 = true := by decide +kernel
theorem nm5_4 : farK nmk5 ⟨75, 29, 119, 46, 99513, 99514⟩ 400 89 43 29 14 98072 98073 = true := by decide +kernel
theorem nm5_5 : farK nmk5 ⟨149, 48, 59, 19, 99904, 99905⟩ 400 75 29 119 46 99513 99514 = true := by decide +kernel
theorem nm5_6 : farK nmk5 ⟨76, 21, 181, 50, 99985, 99986⟩ 400 149 48 59 19 99904 99905 = true := by decide +kernel
theorem nm5_7 : farK nmk5 ⟨120, 29, 149, 36, 99998, 99999⟩ 400 76 21 181 50 99985 99986 = true := by decide +kernel
theorem nm5_8 : farK nmk5 ⟨200, 43, 107, 23, 99999, 100000⟩ 400 120 29 149 36 99998 99999 = true := by decide +kernel
theorem nm5_9 : farK nmk5 ⟨181, 35, 150, 29, 99999, 100000⟩ 400 200 43 107 23 99999 100000 = true := by decide +kernel
theorem nm5_10 : farK nmk5 ⟨199, 35, 91, 16, 99999, 100000⟩ 400 181 35 150 29 99999 100000 = true := by decide +kernel
theorem nm5_11 : farK nmk5 ⟨242, 39, 211, 34, 99999, 100000⟩ 400 199 35 91 16 99999 100000 = true := by decide +kernel
theorem nm5_12 : farK nmk5 ⟨168, 25, 289, 43, 99999, 100000⟩ 400 242 39 211 34 99999 100000 = true := by decide +kernel
theorem nm5_13 : farK nmk5 ⟨275, 38, 152, 21, 99999, 100000⟩ 400 168 25 289 43 99999 100000 = true := by decide +kernel
theorem nm5_14 : farK nmk5 ⟨349, 45, 318, 41, 99999, 100000⟩ 400 275 38 152 21 99999 100000 = true := by decide +kernel
theorem nm5_15 : farK nmk5 ⟨8, 1, 401, 50, 99999, 100000⟩ 191 349 45 318 41 99999 100000 = true := by decide +kernel
theorem nmt5 : TabR 5 := by
  have hck : ∀ n d K, 0 < n → 0 < d → d ≤ 50 → nmk5 n d K = true → ∃ f c, PosR 5 n d f c ∧ K f c = true := fun n d K h1 h2 _ hk => nmCk_ok (by decide) (by decide +kernel) (by decide +kernel) (by decide +kernel) nmc5 (by decide +kernel) h1 h2 hk
  have i0 : FInv ⟨1, 50, 1, 49, 50000, 50000⟩ := ⟨by decide, by decide, by decide, by decide, by decide, by decide, by decide⟩
  obtain ⟨i1, s1⟩ := far_ok hck i0 nm5_0
  obtain ⟨i2, s2⟩ := far_ok hck i1 nm5_1
  have s2 := s1.trans s2 ⟨i0.b1, i1.b1, i2.b1⟩
  obtain ⟨i3, s3⟩ := far_ok hck i2 nm5_2
  have s3 := s2.trans s3 ⟨i0.b1, i2.b1, i3.b1⟩
  obtain ⟨i4, s4⟩ := far_ok hck i3 nm5_3
  have s4 := s3.trans s4 ⟨i0.b1, i3.b1, i4.b1⟩
  obtain ⟨i5, s5⟩ := far_ok hck i4 nm5_4
  have s5 := s4.trans s5 ⟨i0.b1, i4.b1, i5.b1⟩
  obtain ⟨i6, s6⟩ := far_ok hck i5 nm5_5
  have s6 := s5.trans s6 ⟨i0.b1, i5.b1, i6.b1⟩
  obtain ⟨i7, s7⟩ := far_ok hck i6 nm5_6
  have s7 := s6.trans s7 ⟨i0.b1, i6.b1, i7.b1⟩
  obtain ⟨i8, s8⟩ := far_ok hck i7 nm5_7
  have s8 := s7.trans s8 ⟨i0.b1, i7.b1, i8.b1⟩
  obtain ⟨i9, s9⟩ := far_ok hck i8 nm5_8
  have s9 := s8.trans s9 ⟨i0.b1, i8.b1, i9.b1⟩
  obtain ⟨i10, s10⟩ := far_ok hck i9 nm5_9
  have s10 := s9.trans s10 ⟨i0.b1, i9.b1, i10.b1⟩
  obtain ⟨i11, s11⟩ := far_ok hck i10 nm5_10
  have s11 := s10.trans s11 ⟨i0.b1, i10.b1, i11.b1⟩
  obtain ⟨i12, s12⟩ := far_ok hck i11 nm5_11
  have s12 := s11.trans s12 ⟨i0.b1, i11.b1, i12.b1⟩
  obtain ⟨i13, s13⟩ := far_ok hck i12 nm5_12
  have s13 := s12.trans s13 ⟨i0.b1, i12.b1, i13.b1⟩
  obtain ⟨i14, s14⟩ := far_ok hck i13 nm5_13
  have s14 := s13.trans s14 ⟨i0.b1, i13.b1, i14.b1⟩
  obtain ⟨i15, s15⟩ := far_ok hck i14 nm5_14
  have s15 := s14.trans s15 ⟨i0.b1, i14.b1, i15.b1⟩
  obtain ⟨i16, s16⟩ := far_ok hck i15 nm5_15
  have s16 := s15.trans s16 ⟨i0.b1, i15.b1, i16.b1⟩
  exact ⟨_, s16, by decide, by decide, by decide, by decide⟩
theorem nmc6 : rootP 1000000000000000000000 (byP (piN 21, piN 21 + 1) 2 1) = some (2506628274631000502415, 2506628274631000502416) := by decide +kernel
def nmk6 : Nat → Nat → (Nat → Nat → Bool) → Bool := nmCk 1000000000000000000000 999999999999999999999 500000000000000000000 2506628274631000502415 2506628274631000502416
theorem nm6_0 : farK nmk6 ⟨25, 48, 12, 23, 698468, 698469⟩ 400 1 50 1 49 500000 500000 = true := by decide +kernel
theorem nm6_1 : farK nmk6 ⟨51, 49, 25, 24, 850830, 850831⟩ 400 25 48 12 23 698468 698469 = true := by decide +kernel
theorem nm6_2 : farK nmk6 ⟨45, 29, 59, 38, 939551, 939552⟩ 400 51 49 25 24 850830 850831 = true := by decide +kernel
theorem nm6_3 : farK nmk6 ⟨89, 43, 29, 14, 980725, 980726⟩ 400 45 29 59 38 939551 939552 = true := by decide +kernel
theorem nm6_4 : farK nmk6 ⟨75, 29, 119, 46, 995136, 995137⟩ 400 89 43 29 14 980725 980726 = true := by decide +kernel
theorem nm6_5 : farK nmk6 ⟨149, 48, 59, 19, 999043, 999044⟩ 400 75 29 119 46 995136 995137 = true := by decide +kernel
theorem nm6_6 : farK nmk6 ⟨76, 21, 181, 50, 999851, 999852⟩ 400 149 48 59 19 999043 999044 = true := by decide +kernel
theorem nm6_7 : farK nmk6 ⟨120, 29, 149, 36, 999982, 999983⟩ 400 76 21 181 50 999851 999852 = true := by decide +kernel
theorem nm6_8 : farK nmk6 ⟨200, 43, 107, 23, 999998, 999999⟩ 400 120 29 149 36 999982 999983 = true := by decide +kernel
theorem nm6_9 : farK nmk6 ⟨181, 35, 150, 29, 999999, 1000000⟩ 400 200 43 107 23 999998 999999 = true := by decide +kernel
theorem nm6_10 : farK nmk6 ⟨199, 35, 91, 16, 999999, 1000000⟩ 400 181 35 150 29 999999 1000000 = true := by decide +kernel
theorem nm6_11 : farK nmk6 ⟨242, 39, 211, 34, 999999, 1000000⟩ 400 199 35 91 16 999999 1000000 = true := by decide +kernel
theorem nm6_12 : farK nmk6 ⟨168, 25, 289, 43, 999999, 1000000⟩ 400 242 39 211 34 999999 1000000 = true := by decide +kernel
theorem nm6_13 : farK nmk6 ⟨275, 38, 152, 21, 999999, 1000000⟩ 400 168 25 289 43 999999 1000000 = true := by decide +kernel
theorem nm6_14 : farK nmk6 ⟨349, 45, 318, 41, 999999, 1000000⟩ 400 275 38 152 21 999999 1000000 = true := by decide +kernel
theorem nm6_15 : farK nmk6 ⟨8, 1, 401, 50, 999999, 1000000⟩ 191 349 45 318 41 999999 1000000 = true := by decide +kernel
theorem nmt6 : TabR 6 := by
  have hck : ∀ n d K, 0 < n → 0 < d → d ≤ 50 → nmk6 n d K = true → ∃ f c, PosR 6 n d f c ∧ K f c = true := fun n d K h1 h2 _ hk => nmCk_ok (by decide) (by decide +kernel) (by decide +kernel) (by decide +kernel) nmc6 (by decide +kernel) h1 h2 hk
  have i0 : FInv ⟨1, 50, 1, 49, 500000, 500000⟩ := ⟨by decide, by decide, by decide, by decide, by decide, by decide, by decide⟩
  obtain ⟨i1, s1⟩ := far_ok hck i0 nm6_0
  obtain ⟨i2, s2⟩ := far_ok hck i1 nm6_1
  have s2 := s1.trans s2 ⟨i0.b1, i1.b1, i2.b1⟩
  obtain ⟨i3, s3⟩ := far_ok hck i2 nm6_2
  have s3 := s2.trans s3 ⟨i0.b1, i2.b1, i3.b1⟩
  obtain ⟨i4, s4⟩ := far_ok hck i3 nm6_3
  have s4 := s3.trans s4 ⟨i0.b1, i3.b1, i4.b1⟩
  obtain ⟨i5, s5⟩ := far_ok hck i4 nm6_4
  have s5 := s4.trans s5 ⟨i0.b1, i4.b1, i5.b1⟩
  obtain ⟨i6, s6⟩ := far_ok hck i5 nm6_5
  have s6 := s5.trans s6 ⟨i0.b1, i5.b1, i6.b1⟩
  obtain ⟨i7, s7⟩ := far_ok hck i6 nm6_6
  have s7 := s6.trans s7 ⟨i0.b1, i6.b1, i7.b1⟩
  obtain ⟨i8, s8⟩ := far_ok hck i7 nm6_7
  have s8 := s7.trans s8 ⟨i0.b1, i7.b1, i8.b1⟩
  obtain ⟨i9, s9⟩ := far_ok hck i8 nm6_8
  have s9 := s8.trans s9 ⟨i0.b1, i8.b1, i9.b1⟩
  obtain ⟨i10, s10⟩ := far_ok hck i9 nm6_9
  have s10 := s9.trans s10 ⟨i0.b1, i9.b1, i10.b1⟩
  obtain ⟨i11, s11⟩ := far_ok hck i10 nm6_10
  have s11 := s10.trans s11 ⟨i0.b1, i10.b1, i11.b1⟩
  obtain ⟨i12, s12⟩ := far_ok hck i11 nm6_11
  have s12 := s11.trans s12 ⟨i0.b1, i11.b1, i12.b1⟩
  obtain ⟨i13, s13⟩ := far_ok hck i12 nm6_12
  have s13 := s12.trans s13 ⟨i0.b1, i12.b1, i13.b1⟩
  obtain ⟨i14, s14⟩ := far_ok hck i13 nm6_13
  have s14 := s13.trans s14 ⟨i0.b1, i13.b1, i14.b1⟩
  obtain ⟨i15, s15⟩ := far_ok hck i14 nm6_14
  have s15 := s14.trans s15 ⟨i0.b1, i14.b1, i15.b1⟩
  obtain ⟨i16, s16⟩ := far_ok hck i15 nm6_15
  have s16 := s15.trans s16 ⟨i0.b1, i15.b1, i16.b1⟩
  exact ⟨_, s16, by decide, by decide, by decide, by decide⟩
theorem nmc10 : rootP 10000000000000000000000000 (byP (piN 25, piN 25 + 1) 2 1) = some (25066282746310005024157652, 25066282746310005024157653) := by decide +kernel
def nmk10 : Nat → Nat → (Nat → Nat → Bool) → Bool := nmCk 10000000000000000000000000 9999999999999999999999999 5000000000000000000000000 25066282746310005024157652 25066282746310005024157653
theorem nm10_0 : farK nmk10 ⟨25, 48, 12, 23, 6984682124, 6984682125⟩ 400 1 50 1 49 5000000000 5000000000 = true := by decide +kernel
theorem nm10_1 : farK nmk10 ⟨51, 49, 25, 24, 8508300496, 8508300497⟩ 400 25 48 12 23 6984682124 6984682125 = true := by decide +kernel
theorem nm10_2 : farK nmk10 ⟨45, 29, 59, 38, 9395516033, 9395516034⟩ 400 51 49 25 24 8508300496 8508300497 = true := by decide +kernel
theorem nm10_3 : farK nmk10 ⟨89, 43, 29, 14, 9807253386, 9807253387⟩ 400 45 29 59 38 9395516033 9395516034 = true := by decide +kernel
theorem nm10_4 : farK nmk10 ⟨75, 29, 119, 46, 9951362141, 9951362142⟩ 400 89 43 29 14 9807253386 9807253387 = true := by decide +kernel
theorem nm10_5 : farK nmk10 ⟨149, 48, 59, 19, 9990436016, 9990436017⟩ 400 75 29 119 46 9951362141 9951362142 = true := by decide +kernel
theorem nm10_6 : farK nmk10 ⟨76, 21, 181, 50, 9998513532, 9998513533⟩ 400 149 48 59 19 9990436016 9990436017 = true := by decide +kernel
theorem nm10_7 : farK nmk10 ⟨120, 29, 149, 36, 9999823573, 9999823574⟩ 400 76 21 181 50 9998513532 9998513533 = true := by decide +kernel
theorem nm10_8 : farK nmk10 ⟨200, 43, 107, 23, 9999983403, 9999983404⟩ 400 120 29 149 36 9999823573 9999823574 = true := by decide +kernel
theorem nm10_9 : farK nmk10 ⟨181, 35, 150, 29, 9999998834, 9999998835⟩ 400 200 43 107 23 9999983403 9999983404 = true := by decide +kernel
theorem nm10_10 : farK nmk10 ⟨199, 35, 91, 16, 9999999934, 9999999935⟩ 400 181 35 150 29 9999998834 9999998835 = true := by decide +kernel
theorem nm10_11 : farK nmk10 ⟨242, 39, 211, 34, 9999999997, 9999999998⟩ 400 199 35 91 16 9999999934 9999999935 = true := by decide +kernel
theorem nm10_12 : farK nmk10 ⟨168, 25, 289, 43, 9999999999, 10000000000⟩ 400 242 39 211 34 9999999997 9999999998 = true := by decide +kernel
theorem nm10_13 : farK nmk10 ⟨275, 38, 152, 21, 9999999999, 10000000000⟩ 400 168 25 289 43 9999999999 10000000000 = true := by decide +kernel
theorem nm10_14 : farK nmk10 ⟨349, 45, 318, 41, 9999999999, 10000000000⟩ 400 275 38 152 21 9999999999 10000000000 = true := by decide +kernel
theorem nm10_15 : farK nmk10 ⟨8, 1, 401, 50, 9999999999, 10000000000⟩ 191 349 45 318 41 9999999999 10000000000 = true := by decide +kernel
theorem nmt10 : TabR 10 := by
  have hck : ∀ n d K, 0 < n → 0 < d → d ≤ 50 → nmk10 n d K = true → ∃ f c, PosR 10 n d f c ∧ K f c = true := fun n d K h1 h2 _ hk => nmCk_ok (by decide) (by decide +kernel) (by decide +kernel) (by decide +kernel) nmc10 (by decide +kernel) h1 h2 hk
  have i0 : FInv ⟨1, 50, 1, 49, 5000000000, 5000000000⟩ := ⟨by decide, by decide, by decide, by decide, by decide, by decide, by decide⟩
  obtain ⟨i1, s1⟩ := far_ok hck i0 nm10_0
  obtain ⟨i2, s2⟩ := far_ok hck i1 nm10_1
  have s2 := s1.trans s2 ⟨i0.b1, i1.b1, i2.b1⟩
  obtain ⟨i3, s3⟩ := far_ok hck i2 nm10_2
  have s3 := s2.trans s3 ⟨i0.b1, i2.b1, i3.b1⟩
  obtain ⟨i4, s4⟩ := far_ok hck i3 nm10_3
  have s4 := s3.trans s4 ⟨i0.b1, i3.b1, i4.b1⟩
  obtain ⟨i5, s5⟩ := far_ok hck i4 nm10_4
  have s5 := s4.trans s5 ⟨i0.b1, i4.b1, i5.b1⟩
  obtain ⟨i6, s6⟩ := far_ok hck i5 nm10_5
  have s6 := s5.trans s6 ⟨i0.b1, i5.b1, i6.b1⟩
  obtain ⟨i7, s7⟩ := far_ok hck i6 nm10_6
  have s7 := s6.trans s7 ⟨i0.b1, i6.b1, i7.b1⟩
  obtain ⟨i8, s8⟩ := far_ok hck i7 nm10_7
  have s8 := s7.trans s8 ⟨i0.b1, i7.b1, i8.b1⟩
  obtain ⟨i9, s9⟩ := far_ok hck i8 nm10_8
  have s9 := s8.trans s9 ⟨i0.b1, i8.b1, i9.b1⟩
  obtain ⟨i10, s10⟩ := far_ok hck i9 nm10_9
  have s10 := s9.trans s10 ⟨i0.b1, i9.b1, i10.b1⟩
  obtain ⟨i11, s11⟩ := far_ok hck i10 nm10_10
  have s11 := s10.trans s11 ⟨i0.b1, i10.b1, i11.b1⟩
  obtain ⟨i12, s12⟩ := far_ok hck i11 nm10_11
  have s12 := s11.trans s12 ⟨i0.b1, i11.b1, i12.b1⟩
  obtain ⟨i13, s13⟩ := far_ok hck i12 nm10_12
  have s13 := s12.trans s13 ⟨i0.b1, i12.b1, i13.b1⟩
  obtain ⟨i14, s14⟩ := far_ok hck i13 nm10_13
  have s14 := s13.trans s14 ⟨i0.b1, i13.b1, i14.b1⟩
  obtain ⟨i15, s15⟩ := far_ok hck i14 nm10_14
  have s15 := s14.trans s15 ⟨i0.b1, i14.b1, i15.b1⟩
  obtain ⟨i16, s16⟩ := far_ok hck i15 nm10_15
  have s16 := s15.trans s16 ⟨i0.b1, i15.b1, i16.b1⟩
  exact ⟨_, s16, by decide, by decide, by decide, by decide⟩
end Go.Proofs.YteojhdahhaodoaaGreatDoor
