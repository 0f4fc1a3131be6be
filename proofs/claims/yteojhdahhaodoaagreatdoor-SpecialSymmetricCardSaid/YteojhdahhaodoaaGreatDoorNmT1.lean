/- Part of the proof of a statement about the special functions. -/
import Derived.Test.YteojhdahhaodoaaGreatDoorCardAToNmK
set_option linter.all false
namespace Go.Proofs.YteojhdahhaodoaaGreatDoor
open Go Go.Eng Go.RowKit
theorem nmc1 : rootP 10000000000000000 (byP (piN 16, piN 16 + 1) 2 1) = some (25066282746310004, 25066282746310006) := by decide +kernel
theorem nmd1 : rootP 100000000000000000000000000000000000000000 (byP (piN 41, piN 41 + 1) 2 1) = some (250662827463100050241576528481104525300698, 250662827463100050241576528481104525300699) := by decide +kernel
def nmk1 : Nat → Nat → (Nat → Nat → Bool) → Bool := nmCk2 10000000000000000 9999999999999999 5000000000000000 25066282746310004 25066282746310006 100000000000000000000000000000000000000000 99999999999999999999999999999999999999999 50000000000000000000000000000000000000000 250662827463100050241576528481104525300698 250662827463100050241576528481104525300699
theorem nm1_0 : farK nmk1 ⟨25, 48, 12, 23, 6, 7⟩ 400 1 50 1 49 5 5 = true := by decide +kernel
theorem nm1_1 : farK nmk1 ⟨51, 49, 25, 24, 8, 9⟩ 400 25 48 12 23 6 7 = true := by decide +kernel
theorem nm1_2 : farK nmk1 ⟨45, 29, 59, 38, 9, 10⟩ 400 51 49 25 24 8 9 = true := by decide +kernel
theorem nm1_3 : farK nmk1 ⟨89, 43, 29, 14, 9, 10⟩ 400 45 29 59 38 9 10 = true := by decide +kernel
theorem nm1_4 : farK nmk1 ⟨75, 29, 119, 46, 9, 10⟩ 400 89 43 29 14 9 10 = true := by decide +kernel
theorem nm1_5 : farK nmk1 ⟨149, 48, 59, 19, 9, 10⟩ 400 75 29 119 46 9 10 = true := by decide +kernel
theorem nm1_6 : farK nmk1 ⟨76, 21, 181, 50, 9, 10⟩ 400 149 48 59 19 9 10 = true := by decide +kernel
theorem nm1_7 : farK nmk1 ⟨120, 29, 149, 36, 9, 10⟩ 400 76 21 181 50 9 10 = true := by decide +kernel
theorem nm1_8 : farK nmk1 ⟨200, 43, 107, 23, 9, 10⟩ 400 120 29 149 36 9 10 = true := by decide +kernel
theorem nm1_9 : farK nmk1 ⟨181, 35, 150, 29, 9, 10⟩ 400 200 43 107 23 9 10 = true := by decide +kernel
theorem nm1_10 : farK nmk1 ⟨199, 35, 91, 16, 9, 10⟩ 400 181 35 150 29 9 10 = true := by decide +kernel
theorem nm1_11 : farK nmk1 ⟨242, 39, 211, 34, 9, 10⟩ 400 199 35 91 16 9 10 = true := by decide +kernel
theorem nm1_12 : farK nmk1 ⟨168, 25, 289, 43, 9, 10⟩ 400 242 39 211 34 9 10 = true := by decide +kernel
theorem nm1_13 : farK nmk1 ⟨275, 38, 152, 21, 9, 10⟩ 400 168 25 289 43 9 10 = true := by decide +kernel
theorem nm1_14 : farK nmk1 ⟨349, 45, 318, 41, 9, 10⟩ 400 275 38 152 21 9 10 = true := by decide +kernel
theorem nm1_15 : farK nmk1 ⟨8, 1, 401, 50, 9, 10⟩ 191 349 45 318 41 9 10 = true := by decide +kernel
theorem nmt1 : TabR 1 := by
  have hck : ∀ n d K, 0 < n → 0 < d → d ≤ 50 → nmk1 n d K = true → ∃ f c, PosR 1 n d f c ∧ K f c = true := fun n d K h1 h2 _ hk => nmCk2_ok (by decide) (by decide +kernel) (by decide +kernel) (by decide +kernel) nmc1 (by decide +kernel) (by decide +kernel) (by decide +kernel) (by decide +kernel) nmd1 (by decide +kernel) h1 h2 hk
  have i0 : FInv ⟨1, 50, 1, 49, 5, 5⟩ := ⟨by decide, by decide, by decide, by decide, by decide, by decide, by decide⟩
  obtain ⟨i1, s1⟩ := far_ok hck i0 nm1_0
  obtain ⟨i2, s2⟩ := far_ok hck i1 nm1_1
  have s2 := s1.trans s2 ⟨i0.b1, i1.b1, i2.b1⟩
  obtain ⟨i3, s3⟩ := far_ok hck i2 nm1_2
  have s3 := s2.trans s3 ⟨i0.b1, i2.b1, i3.b1⟩
  obtain ⟨i4, s4⟩ := far_ok hck i3 nm1_3
  have s4 := s3.trans s4 ⟨i0.b1, i3.b1, i4.b1⟩
  obtain ⟨i5, s5⟩ := far_ok hck i4 nm1_4
  have s5 := s4.trans s5 ⟨i0.b1, i4.b1, i5.b1⟩
  obtain ⟨i6, s6⟩ := far_ok hck i5 nm1_5
  have s6 := s5.trans s6 ⟨i0.b1, i5.b1, i6.b1⟩
  obtain ⟨i7, s7⟩ := far_ok hck i6 nm1_6
  have s7 := s6.trans s7 ⟨i0.b1, i6.b1, i7.b1⟩
  obtain ⟨i8, s8⟩ := far_ok hck i7 nm1_7
  have s8 := s7.trans s8 ⟨i0.b1, i7.b1, i8.b1⟩
  obtain ⟨i9, s9⟩ := far_ok hck i8 nm1_8
  have s9 := s8.trans s9 ⟨i0.b1, i8.b1, i9.b1⟩
  obtain ⟨i10, s10⟩ := far_ok hck i9 nm1_9
  have s10 := s9.trans s10 ⟨i0.b1, i9.b1, i10.b1⟩
  obtain ⟨i11, s11⟩ := far_ok hck i10 nm1_10
  have s11 := s10.trans s11 ⟨i0.b1, i10.b1, i11.b1⟩
  obtain ⟨i12, s12⟩ := far_ok hck i11 nm1_11
  have s12 := s11.trans s12 ⟨i0.b1, i11.b1, i12.b1⟩
  obtain ⟨i13, s13⟩ := far_ok hck i12 nm1_12
  have s13 := s12.trans s13 ⟨i0.b1, i12.b1, i13.b1⟩
  obtain ⟨i14, s14⟩ := far_ok hck i13 nm1_13
  have s14 := s13.trans s14 ⟨i0.b1, i13.b1, i14.b1⟩
  obtain ⟨i15, s15⟩ := far_ok hck i14 nm1_14
  have s15 := s14.trans s15 ⟨i0.b1, i14.b1, i15.b1⟩
  obtain ⟨i16, s16⟩ := far_ok hck i15 nm1_15
  have s16 := s15.trans s16 ⟨i0.b1, i15.b1, i16.b1⟩
  exact ⟨_, s16, by decide, by decide, by decide, by decide⟩
theorem nmc2 : rootP 100000000000000000 (byP (piN 17, piN 17 + 1) 2 1) = some (250662827463100049, 250662827463100051) := by decide +kernel
theorem nmd2 : rootP 1000000000000000000000000000000000000000000 (byP (piN 42, piN 42 + 1) 2 1) = some (2506628274631000502415765284811045253006986, 2506628274631000502415765284811045253006987) := by decide +kernel
def nmk2 : Nat → Nat → (Nat → Nat → Bool) → Bool := nmCk2 100000000000000000 99999999999999999 50000000000000000 250662827463100049 250662827463100051 1000000000000000000000000000000000000000000 999999999999999999999999999999999999999999 500000000000000000000000000000000000000000 2506628274631000502415765284811045253006986 2506628274631000502415765284811045253006987
theorem nm2_0 : farK nmk2 ⟨25, 48, 12, 23, 69, 70⟩ 400 1 50 1 49 50 50 = true := by decide +kernel
theorem nm2_1 : farK nmk2 ⟨51, 49, 25, 24, 85, 86⟩ 400 25 48 12 23 69 70 = true := by decide +kernel
theorem nm2_2 : farK nmk2 ⟨45, 29, 59, 38, 93, 94⟩ 400 51 49 25 24 85 86 = true := by decide +kernel
theorem nm2_3 : farK nmk2 ⟨89, 43, 29, 14, 98, 99⟩ 400 45 29 59 38 93 94 = true := by decide +kernel
theorem nm2_4 : farK nmk2 ⟨75, 29, 119, 46, 99, 100⟩ 400 89 43 29 14 98 99 = true := by decide +kernel
theorem nm2_5 : farK nmk2 ⟨149, 48, 59, 19, 99, 100⟩ 400 75 29 119 46 99 100 = true := by decide +kernel
theorem nm2_6 : farK nmk2 ⟨76, 21, 181, 50, 99, 100⟩ 400 149 48 59 19 99 100 = true := by decide +kernel
theorem nm2_7 : farK nmk2 ⟨120, 29, 149, 36, 99, 100⟩ 400 76 21 181 50 99 100 = true := by decide +kernel
theorem nm2_8 : farK nmk2 ⟨200, 43, 107, 23, 99, 100⟩ 400 120 29 149 36 99 100 = true := by decide +kernel
theorem nm2_9 : farK nmk2 ⟨181, 35, 150, 29, 99, 100⟩ 400 200 43 107 23 99 100 = true := by decide +kernel
theorem nm2_10 : farK nmk2 ⟨199, 35, 91, 16, 99, 100⟩ 400 181 35 150 29 99 100 = true := by decide +kernel
theorem nm2_11 : farK nmk2 ⟨242, 39, 211, 34, 99, 100⟩ 400 199 35 91 16 99 100 = true := by decide +kernel
theorem nm2_12 : farK nmk2 ⟨168, 25, 289, 43, 99, 100⟩ 400 242 39 211 34 99 100 = true := by decide +kernel
theorem nm2_13 : farK nmk2 ⟨275, 38, 152, 21, 99, 100⟩ 400 168 25 289 43 99 100 = true := by decide +kernel
theorem nm2_14 : farK nmk2 ⟨349, 45, 318, 41, 99, 100⟩ 400 275 38 152 21 99 100 = true := by decide +kernel
theorem nm2_15 : farK nmk2 ⟨8, 1, 401, 50, 99, 100⟩ 191 349 45 318 41 99 100 = true := by decide +kernel
theorem nmt2 : TabR 2 := by
  have hck : ∀ n d K, 0 < n → 0 < d → d ≤ 50 → nmk2 n d K = true → ∃ f c, PosR 2 n d f c ∧ K f c = true := fun n d K h1 h2 _ hk => nmCk2_ok (by decide) (by decide +kernel) (by decide +kernel) (by decide +kernel) nmc2 (by decide +kernel) (by decide +kernel) (by decide +kernel) (by decide +kernel) nmd2 (by decide +kernel) h1 h2 hk
  have i0 : FInv ⟨1, 50, 1, 49, 50, 50⟩ := ⟨by decide, by decide, by decide, by decide, by decide, by decide, by decide⟩
  obtain ⟨i1, s1⟩ := far_ok hck i0 nm2_0
  obtain ⟨i2, s2⟩ := far_ok hck i1 nm2_1
  have s2 := s1.trans s2 ⟨i0.b1, i1.b1, i2.b1⟩
  obtain ⟨i3, s3⟩ := far_ok hck i2 nm2_2
  have s3 := s2.trans s3 ⟨i0.b1, i2.b1, i3.b1⟩
  obtain ⟨i4, s4⟩ := far_ok hck i3 nm2_3
  have s4 := s3.trans s4 ⟨i0.b1, i3.b1, i4.b1⟩
  obtain ⟨i5, s5⟩ := far_ok hck i4 nm2_4
  have s5 := s4.trans s5 ⟨i0.b1, i4.b1, i5.b1⟩
  obtain ⟨i6, s6⟩ := far_ok hck i5 nm2_5
  have s6 := s5.trans s6 ⟨i0.b1, i5.b1, i6.b1⟩
  obtain ⟨i7, s7⟩ := far_ok hck i6 nm2_6
  have s7 := s6.trans s7 ⟨i0.b1, i6.b1, i7.b1⟩
  obtain ⟨i8, s8⟩ := far_ok hck i7 nm2_7
  have s8 := s7.trans s8 ⟨i0.b1, i7.b1, i8.b1⟩
  obtain ⟨i9, s9⟩ := far_ok hck i8 nm2_8
  have s9 := s8.trans s9 ⟨i0.b1, i8.b1, i9.b1⟩
  obtain ⟨i10, s10⟩ := far_ok hck i9 nm2_9
  have s10 := s9.trans s10 ⟨i0.b1, i9.b1, i10.b1⟩
  obtain ⟨i11, s11⟩ := far_ok hck i10 nm2_10
  have s11 := s10.trans s11 ⟨i0.b1, i10.b1, i11.b1⟩
  obtain ⟨i12, s12⟩ := far_ok hck i11 nm2_11
  have s12 := s11.trans s12 ⟨i0.b1, i11.b1, i12.b1⟩
  obtain ⟨i13, s13⟩ := far_ok hck i12 nm2_12
  have s13 := s12.trans s13 ⟨i0.b1, i12.b1, i13.b1⟩
  obtain ⟨i14, s14⟩ := far_ok hck i13 nm2_13
  have s14 := s13.trans s14 ⟨i0.b1, i13.b1, i14.b1⟩
  obtain ⟨i15, s15⟩ := far_ok hck i14 nm2_14
  have s15 := s14.trans s15 ⟨i0.b1, i14.b1, i15.b1⟩
  obtain ⟨i16, s16⟩ := far_ok hck i15 nm2_15
  have s16 := s15.trans s16 ⟨i0.b1, i15.b1, i16.b1⟩
  exact ⟨_, s16, by decide, by decide, by decide, by decide⟩
theorem nmc12 : rootP 1000000000000000000000000000 (byP (piN 27, piN 27 + 1) 2 1) = some (2506628274631000502415765284, 2506628274631000502415765286) := by decide +kernel
def nmk12 : Nat → Nat → (Nat → Nat → Bool) → Bool := nmCk 1000000000000000000000000000 999999999999999999999999999 500000000000000000000000000 2506628274631000502415765284 2506628274631000502415765286
theorem nm12_0 : farK nmk12 ⟨25, 48, 12, 23, 698468212453, 698468212454⟩ 400 1 50 1 49 500000000000 500000000000 = true := by decide +kernel
theorem nm12_1 : farK nmk12 ⟨51, 49, 25, 24, 850830049669, 850830049670⟩ 400 25 48 12 23 698468212453 698468212454 = true := by decide +kernel
theorem nm12_2 : farK nmk12 ⟨45, 29, 59, 38, 939551603349, 939551603350⟩ 400 51 49 25 24 850830049669 850830049670 = true := by decide +kernel
theorem nm12_3 : farK nmk12 ⟨89, 43, 29, 14, 980725338673, 980725338674⟩ 400 45 29 59 38 939551603349 939551603350 = true := by decide +kernel
theorem nm12_4 : farK nmk12 ⟨75, 29, 119, 46, 995136214119, 995136214120⟩ 400 89 43 29 14 980725338673 980725338674 = true := by decide +kernel
theorem nm12_5 : farK nmk12 ⟨149, 48, 59, 19, 999043601662, 999043601663⟩ 400 75 29 119 46 995136214119 995136214120 = true := by decide +kernel
theorem nm12_6 : farK nmk12 ⟨76, 21, 181, 50, 999851353290, 999851353291⟩ 400 149 48 59 19 999043601662 999043601663 = true := by decide +kernel
theorem nm12_7 : farK nmk12 ⟨120, 29, 149, 36, 999982357356, 999982357357⟩ 400 76 21 181 50 999851353290 999851353291 = true := by decide +kernel
theorem nm12_8 : farK nmk12 ⟨200, 43, 107, 23, 999998340324, 999998340325⟩ 400 120 29 149 36 999982357356 999982357357 = true := by decide +kernel
theorem nm12_9 : farK nmk12 ⟨181, 35, 150, 29, 999999883410, 999999883411⟩ 400 200 43 107 23 999998340324 999998340325 = true := by decide +kernel
theorem nm12_10 : farK nmk12 ⟨199, 35, 91, 16, 999999993429, 999999993430⟩ 400 181 35 150 29 999999883410 999999883411 = true := by decide +kernel
theorem nm12_11 : farK nmk12 ⟨242, 39, 211, 34, 999999999725, 999999999726⟩ 400 199 35 91 16 999999993429 999999993430 = true := by decide +kernel
theorem nm12_12 : farK nmk12 ⟨168, 25, 289, 43, 999999999990, 999999999991⟩ 400 242 39 211 34 999999999725 999999999726 = true := by decide +kernel
theorem nm12_13 : farK nmk12 ⟨275, 38, 152, 21, 999999999999, 1000000000000⟩ 400 168 25 289 43 999999999990 999999999991 = true := by decide +kernel
theorem nm12_14 : farK nmk12 ⟨349, 45, 318, 41, 999999999999, 1000000000000⟩ 400 275 38 152 21 999999999999 1000000000000 = true := by decide +kernel
theorem nm12_15 : farK nmk12 ⟨8, 1, 401, 50, 999999999999, 1000000000000⟩ 191 349 45 318 41 999999999999 1000000000000 = true := by decide +kernel
theorem nmt12 : TabR 12 := by
  have hck : ∀ n d K, 0 < n → 0 < d → d ≤ 50 → nmk12 n d K = true → ∃ f c, PosR 12 n d f c ∧ K f c = true := fun n d K h1 h2 _ hk => nmCk_ok (by decide) (by decide +kernel) (by decide +kernel) (by decide +kernel) nmc12 (by decide +kernel) h1 h2 hk
  have i0 : FInv ⟨1, 50, 1, 49, 500000000000, 500000000000⟩ := ⟨by decide, by decide, by decide, by decide, by decide, by decide, by decide⟩
  obtain ⟨i1, s1⟩ := far_ok hck i0 nm12_0
  obtain ⟨i2, s2⟩ := far_ok hck i1 nm12_1
  have s2 := s1.trans s2 ⟨i0.b1, i1.b1, i2.b1⟩
  obtain ⟨i3, s3⟩ := far_ok hck i2 nm12_2
  have s3 := s2.trans s3 ⟨i0.b1, i2.b1, i3.b1⟩
  obtain ⟨i4, s4⟩ := far_ok hck i3 nm12_3
  have s4 := s3.trans s4 ⟨i0.b1, i3.b1, i4.b1⟩
  obtain ⟨i5, s5⟩ := far_ok hck i4 nm12_4
  have s5 := s4.trans s5 ⟨i0.b1, i4.b1, i5.b1⟩
  obtain ⟨i6, s6⟩ := far_ok hck i5 nm12_5
  have s6 := s5.trans s6 ⟨i0.b1, i5.b1, i6.b1⟩
  obtain ⟨i7, s7⟩ := far_ok hck i6 nm12_6
  have s7 := s6.trans s7 ⟨i0.b1, i6.b1, i7.b1⟩
  obtain ⟨i8, s8⟩ := far_ok hck i7 nm12_7
  have s8 := s7.trans s8 ⟨i0.b1, i7.b1, i8.b1⟩
  obtain ⟨i9, s9⟩ := far_ok hck i8 nm12_8
  have s9 := s8.trans s9 ⟨i0.b1, i8.b1, i9.b1⟩
  obtain ⟨i10, s10⟩ := far_ok hck i9 nm12_9
  have s10 := s9.trans s10 ⟨i0.b1, i9.b1, i10.b1⟩
  obtain ⟨i11, s11⟩ := far_ok hck i10 nm12_10
  have s11 := s10.trans s11 ⟨i0.b1, i10.b1, i11.b1⟩
  obtain ⟨i12, s12⟩ := far_ok hck i11 nm12_11
  have s12 := s11.trans s12 ⟨i0.b1, i11.b1, i12.b1⟩
  obtain ⟨i13, s13⟩ := far_ok hck i12 nm12_12
  have s13 := s12.trans s13 ⟨i0.b1, i12.b1, i13.b1⟩
  obtain ⟨i14, s14⟩ := far_ok hck i13 nm12_13
  have s14 := s13.trans s14 ⟨i0.b1, i13.b1, i14.b1⟩
  obtain ⟨i15, s15⟩ := far_ok hck i14 nm12_14
  have s15 := s14.trans s15 ⟨i0.b1, i14.b1, i15.b1⟩
  obtain ⟨i16, s16⟩ := far_ok hck i15 nm12_15
  have s16 := s15.trans s16 ⟨i0.b1, i15.b1, i16.b1⟩
  exact ⟨_, s16, by decide, by decide, by decide, by decide⟩
end Go.Proofs.YteojhdahhaodoaaGreatDoor
