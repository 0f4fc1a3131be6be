/- Part of the proof of a statement about the special functions. -/
import Derived.Test.YteojhdahhaodoaaGreatDoorCardAToNmK
set_option linter.all false
namespace Go.Proofs.YteojhdahhaodoaaGreatDoor
open Go Go.Eng Go.RowKit
theorem nmc7 : rootP 10000000000000000000000 (byP (piN 22, piN 22 + 1) 2 1) = some (25066282746310005024157, 25066282746310005024158) := by decide +kernel
def nmk7 : Nat → Nat → (Nat → Nat → Bool) → Bool := nmCk 10000000000000000000000 9999999999999999999999 5000000000000000000000 25066282746310005024157 25066282746310005024158
theorem nm7_0 : farK nmk7 ⟨25, 48, 12, 23, 6984682, 6984683⟩ 400 1 50 1 49 5000000 5000000 = true := by decide +kernel
theorem nm7_1 : farK nmk7 ⟨51, 49, 25, 24, 8508300, 8508301⟩ 400 25 48 12 23 6984682 6984683 = true := by decide +kernel
theorem nm7_2 : farK nmk7 ⟨45, 29, 59, 38, 9395516, 9395517⟩ 400 51 49 25 24 8508300 8508301 = true := by decide +kernel
theorem nm7_3 : farK nmk7 ⟨89, 43, 29, 14, 9807253, 9807254⟩ 400 45 29 59 38 9395516 9395517 = true := by decide +kernel
theorem nm7_4 : farK nmk7 ⟨75, 29, 119, 46, 9951362, 9951363⟩ 400 89 43 29 14 9807253 9807254 = true := by decide +kernel
theorem nm7_5 : farK nmk7 ⟨149, 48, 59, 19, 9990436, 9990437⟩ 400 75 29 119 46 9951362 9951363 = true := by decide +kernel
theorem nm7_6 : farK nmk7 ⟨76, 21, 181, 50, 9998513, 9998514⟩ 400 149 48 59 19 9990436 9990437 = true := by decide +kernel
theorem nm7_7 : farK nmk7 ⟨120, 29, 149, 36, 9999823, 9999824⟩ 400 76 21 181 50 9998513 9998514 = true := by decide +kernel
theorem nm7_8 : farK nmk7 ⟨200, 43, 107, 23, 9999983, 9999984⟩ 400 120 29 149 36 9999823 9999824 = true := by decide +kernel
theorem nm7_9 : farK nmk7 ⟨181, 35, 150, 29, 9999998, 9999999⟩ 400 200 43 107 23 9999983 9999984 = true := by decide +kernel
theorem nm7_10 : farK nmk7 ⟨199, 35, 91, 16, 9999999, 10000000⟩ 400 181 35 150 29 9999998 9999999 = true := by decide +kernel
theorem nm7_11 : farK nmk7 ⟨242, 39, 211, 34, 9999999, 10000000⟩ 400 199 35 91 16 9999999 10000000 = true := by decide +kernel
theorem nm7_12 : farK nmk7 ⟨168, 25, 289, 43, 9999999, 10000000⟩ 400 242 39 211 34 9999999 10000000 = true := by decide +kernel
theorem nm7_13 : farK nmk7 ⟨275, 38, 152, 21, 9999999, 10000000⟩ 400 168 25 289 43 9999999 10000000 = true := by decide +kernel
theorem nm7_14 : farK nmk7 ⟨349, 45, 318, 41, 9999999, 10000000⟩ 400 275 38 152 21 9999999 10000000 = true := by decide +kernel
theorem nm7_15 : farK nmk7 ⟨8, 1, 401, 50, 9999999, 10000000⟩ 191 349 45 318 41 9999999 10000000 = true := by decide +kernel
theorem nmt7 : TabR 7 := by
  have hck : ∀ n d K, 0 < n → 0 < d → d ≤ 50 → nmk7 n d K = true → ∃ f c, PosR 7 n d f c ∧ K f c = true := fun n d K h1 h2 _ hk => nmCk_ok (by decide) (by decide +kernel) (by decide +kernel) (by decide +kernel) nmc7 (by decide +kernel) h1 h2 hk
  have i0 : FInv ⟨1, 50, 1, 49, 5000000, 5000000⟩ := ⟨by decide, by decide, by decide, by decide, by decide, by decide, by decide⟩
  obtain ⟨i1, s1⟩ := far_ok hck i0 nm7_0
  obtain ⟨i2, s2⟩ := far_ok hck i1 nm7_1
  have s2 := s1.trans s2 ⟨i0.b1, i1.b1, i2.b1⟩
  obtain ⟨i3, s3⟩ := far_ok hck i2 nm7_2
  have s3 := s2.trans s3 ⟨i0.b1, i2.b1, i3.b1⟩
  obtain ⟨i4, s4⟩ := far_ok hck i3 nm7_3
  have s4 := s3.trans s4 ⟨i0.b1, i3.b1, i4.b1⟩
  obtain ⟨i5, s5⟩ := far_ok hck i4 nm7_4
  have s5 := s4.trans s5 ⟨i0.b1, i4.b1, i5.b1⟩
  obtain ⟨i6, s6⟩ := far_ok hck i5 nm7_5
  have s6 := s5.trans s6 ⟨i0.b1, i5.b1, i6.b1⟩
  obtain ⟨i7, s7⟩ := far_ok hck i6 nm7_6
  have s7 := s6.trans s7 ⟨i0.b1, i6.b1, i7.b1⟩
  obtain ⟨i8, s8⟩ := far_ok hck i7 nm7_7
  have s8 := s7.trans s8 ⟨i0.b1, i7.b1, i8.b1⟩
  obtain ⟨i9, s9⟩ := far_ok hck i8 nm7_8
  have s9 := s8.trans s9 ⟨i0.b1, i8.b1, i9.b1⟩
  obtain ⟨i10, s10⟩ := far_ok hck i9 nm7_9
  have s10 := s9.trans s10 ⟨i0.b1, i9.b1, i10.b1⟩
  obtain ⟨i11, s11⟩ := far_ok hck i10 nm7_10
  have s11 := s10.trans s11 ⟨i0.b1, i10.b1, i11.b1⟩
  obtain ⟨i12, s12⟩ := far_ok hck i11 nm7_11
  have s12 := s11.trans s12 ⟨i0.b1, i11.b1, i12.b1⟩
  obtain ⟨i13, s13⟩ := far_ok hck i12 nm7_12
  have s13 := s12.trans s13 ⟨i0.b1, i12.b1, i13.b1⟩
  obtain ⟨i14, s14⟩ := far_ok hck i13 nm7_13
  have s14 := s13.trans s14 ⟨i0.b1, i13.b1, i14.b1⟩
  obtain ⟨i15, s15⟩ := far_ok hck i14 nm7_14
  have s15 := s14.trans s15 ⟨i0.b1, i14.b1, i15.b1⟩
  obtain ⟨i16, s16⟩ := far_ok hck i15 nm7_15
  have s16 := s15.trans s16 ⟨i0.b1, i15.b1, i16.b1⟩
  exact ⟨_, s16, by decide, by decide, by decide, by decide⟩
theorem nmc8 : rootP 100000000000000000000000 (byP (piN 23, piN 23 + 1) 2 1) = some (250662827463100050241576, 250662827463100050241577) := by decide +kernel
def nmk8 : Nat → Nat → (Nat → Nat → Bool) → Bool := nmCk 100000000000000000000000 99999999999999999999999 50000000000000000000000 250662827463100050241576 250662827463100050241577
theorem nm8_0 : farK nmk8 ⟨25, 48, 12, 23, 69846821, 69846822⟩ 400 1 50 1 49 50000000 50000000 = true := by decide +kernel
theorem nm8_1 : farK nmk8 ⟨51, 49, 25, 24, 85083004, 85083005⟩ 400 25 48 12 23 69846821 69846822 = true := by decide +kernel
theorem nm8_2 : farK nmk8 ⟨45, 29, 59, 38, 93955160, 93955161⟩ 400 51 49 25 24 85083004 85083005 = true := by decide +kernel
theorem nm8_3 : farK nmk8 ⟨89, 43, 29, 14, 98072533, 98072534⟩ 400 45 29 59 38 93955160 93955161 = true := by decide +kernel
theorem nm8_4 : farK nmk8 ⟨75, 29, 119, 46, 99513621, 99513622⟩ 400 89 43 29 14 98072533 98072534 = true := by decide +kernel
theorem nm8_5 : farK nmk8 ⟨149, 48, 59, 19, 99904360, 99904361⟩ 400 75 29 119 46 99513621 99513622 = true := by decide +kernel
theorem nm8_6 : farK nmk8 ⟨76, 21, 181, 50, 99985135, 99985136⟩ 400 149 48 59 19 99904360 99904361 = true := by decide +kernel
theorem nm8_7 : farK nmk8 ⟨120, 29, 149, 36, 99998235, 99998236⟩ 400 76 21 181 50 99985135 99985136 = true := by decide +kernel
theorem nm8_8 : farK nmk8 ⟨200, 43, 107, 23, 99999834, 99999835⟩ 400 120 29 149 36 99998235 99998236 = true := by decide +kernel
theorem nm8_9 : farK nmk8 ⟨181, 35, 150, 29, 99999988, 99999989⟩ 400 200 43 107 23 99999834 99999835 = true := by decide +kernel
theorem nm8_10 : farK nmk8 ⟨199, 35, 91, 16, 99999999, 100000000⟩ 400 181 35 150 29 99999988 99999989 = true := by decide +kernel
theorem nm8_11 : farK nmk8 ⟨242, 39, 211, 34, 99999999, 100000000⟩ 400 199 35 91 16 99999999 100000000 = true := by decide +kernel
theorem nm8_12 : farK nmk8 ⟨168, 25, 289, 43, 99999999, 100000000⟩ 400 242 39 211 34 99999999 100000000 = true := by decide +kernel
theorem nm8_13 : farK nmk8 ⟨275, 38, 152, 21, 99999999, 100000000⟩ 400 168 25 289 43 99999999 100000000 = true := by decide +kernel
theorem nm8_14 : farK nmk8 ⟨349, 45, 318, 41, 99999999, 100000000⟩ 400 275 38 152 21 99999999 100000000 = true := by decide +kernel
theorem nm8_15 : farK nmk8 ⟨8, 1, 401, 50, 99999999, 100000000⟩ 191 349 45 318 41 99999999 100000000 = true := by decide +kernel
theorem nmt8 : TabR 8 := by
  have hck : ∀ n d K, 0 < n → 0 < d → d ≤ 50 → nmk8 n d K = true → ∃ f c, PosR 8 n d f c ∧ K f c = true := fun n d K h1 h2 _ hk => nmCk_ok (by decide) (by decide +kernel) (by decide +kernel) (by decide +kernel) nmc8 (by decide +kernel) h1 h2 hk
  have i0 : FInv ⟨1, 50, 1, 49, 50000000, 50000000⟩ := ⟨by decide, by decide, by decide, by decide, by decide, by decide, by decide⟩
  obtain ⟨i1, s1⟩ := far_ok hck i0 nm8_0
  obtain ⟨i2, s2⟩ := far_ok hck i1 nm8_1
  have s2 := s1.trans s2 ⟨i0.b1, i1.b1, i2.b1⟩
  obtain ⟨i3, s3⟩ := far_ok hck i2 nm8_2
  have s3 := s2.trans s3 ⟨i0.b1, i2.b1, i3.b1⟩
  obtain ⟨i4, s4⟩ := far_ok hck i3 nm8_3
  have s4 := s3.trans s4 ⟨i0.b1, i3.b1, i4.b1⟩
  obtain ⟨i5, s5⟩ := far_ok hck i4 nm8_4
  have s5 := s4.trans s5 ⟨i0.b1, i4.b1, i5.b1⟩
  obtain ⟨i6, s6⟩ := far_ok hck i5 nm8_5
  have s6 := s5.trans s6 ⟨i0.b1, i5.b1, i6.b1⟩
  obtain ⟨i7, s7⟩ := far_ok hck i6 nm8_6
  have s7 := s6.trans s7 ⟨i0.b1, i6.b1, i7.b1⟩
  obtain ⟨i8, s8⟩ := far_ok hck i7 nm8_7
  have s8 := s7.trans s8 ⟨i0.b1, i7.b1, i8.b1⟩
  obtain ⟨i9, s9⟩ := far_ok hck i8 nm8_8
  have s9 := s8.trans s9 ⟨i0.b1, i8.b1, i9.b1⟩
  obtain ⟨i10, s10⟩ := far_ok hck i9 nm8_9
  have s10 := s9.trans s10 ⟨i0.b1, i9.b1, i10.b1⟩
  obtain ⟨i11, s11⟩ := far_ok hck i10 nm8_10
  have s11 := s10.trans s11 ⟨i0.b1, i10.b1, i11.b1⟩
  obtain ⟨i12, s12⟩ := far_ok hck i11 nm8_11
  have s12 := s11.trans s12 ⟨i0.b1, i11.b1, i12.b1⟩
  obtain ⟨i13, s13⟩ := far_ok hck i12 nm8_12
  have s13 := s12.trans s13 ⟨i0.b1, i12.b1, i13.b1⟩
  obtain ⟨i14, s14⟩ := far_ok hck i13 nm8_13
  have s14 := s13.trans s14 ⟨i0.b1, i13.b1, i14.b1⟩
  obtain ⟨i15, s15⟩ := far_ok hck i14 nm8_14
  have s15 := s14.trans s15 ⟨i0.b1, i14.b1, i15.b1⟩
  obtain ⟨i16, s16⟩ := far_ok hck i15 nm8_15
  have s16 := s15.trans s16 ⟨i0.b1, i15.b1, i16.b1⟩
  exact ⟨_, s16, by decide, by decide, by decide, by decide⟩
theorem nmc9 : rootP 1000000000000000000000000 (byP (piN 24, piN 24 + 1) 2 1) = some (2506628274631000502415765, 2506628274631000502415766) := by decide +kernel
def nmk9 : Nat → Nat → (Nat → Nat → Bool) → Bool := nmCk 1000000000000000000000000 999999999999999999999999 500000000000000000000000 2506628274631000502415765 2506628274631000502415766
theorem nm9_0 : farK nmk9 ⟨25, 48, 12, 23, 698468212, 698468213⟩ 400 1 50 1 49 500000000 500000000 = true := by decide +kernel
theorem nm9_1 : farK nmk9 ⟨51, 49, 25, 24, 850830049, 850830050⟩ 400 25 48 12 23 698468212 698468213 = true := by decide +kernel
theorem nm9_2 : farK nmk9 ⟨45, 29, 59, 38, 939551603, 939551604⟩ 400 51 49 25 24 850830049 850830050 = true := by decide +kernel
theorem nm9_3 : farK nmk9 ⟨89, 43, 29, 14, 980725338, 980725339⟩ 400 45 29 59 38 939551603 939551604 = true := by decide +kernel
theorem nm9_4 : farK nmk9 ⟨75, 29, 119, 46, 995136214, 995136215⟩ 400 89 43 29 14 980725338 980725339 = true := by decide +kernel
theorem nm9_5 : farK nmk9 ⟨149, 48, 59, 19, 999043601, 999043602⟩ 400 75 29 119 46 995136214 995136215 = true := by decide +kernel
theorem nm9_6 : farK nmk9 ⟨76, 21, 181, 50, 999851353, 999851354⟩ 400 149 48 59 19 999043601 999043602 = true := by decide +kernel
theorem nm9_7 : farK nmk9 ⟨120, 29, 149, 36, 999982357, 999982358⟩ 400 76 21 181 50 999851353 999851354 = true := by decide +kernel
theorem nm9_8 : farK nmk9 ⟨200, 43, 107, 23, 999998340, 999998341⟩ 400 120 29 149 36 999982357 999982358 = true := by decide +kernel
theorem nm9_9 : farK nmk9 ⟨181, 35, 150, 29, 999999883, 999999884⟩ 400 200 43 107 23 999998340 999998341 = true := by decide +kernel
theorem nm9_10 : farK nmk9 ⟨199, 35, 91, 16, 999999993, 999999994⟩ 400 181 35 150 29 999999883 999999884 = true := by decide +kernel
theorem nm9_11 : farK nmk9 ⟨242, 39, 211, 34, 999999999, 1000000000⟩ 400 199 35 91 16 999999993 999999994 = true := by decide +kernel
theorem nm9_12 : farK nmk9 ⟨168, 25, 289, 43, 999999999, 1000000000⟩ 400 242 39 211 34 999999999 1000000000 = true := by decide +kernel
theorem nm9_13 : farK nmk9 ⟨275, 38, 152, 21, 999999999, 1000000000⟩ 400 168 25 289 43 999999999 1000000000 = true := by decide +kernel
theorem nm9_14 : farK nmk9 ⟨349, 45, 318, 41, 999999999, 1000000000⟩ 400 275 38 152 21 999999999 1000000000 = true := by decide +kernel
theorem nm9_15 : farK nmk9 ⟨8, 1, 401, 50, 999999999, 1000000000⟩ 191 349 45 318 41 999999999 1000000000 = true := by decide +kernel
theorem nmt9 : TabR 9 := by
  have hck : ∀ n d K, 0 < n → 0 < d → d ≤ 50 → nmk9 n d K = true → ∃ f c, PosR 9 n d f c ∧ K f c = true := fun n d K h1 h2 _ hk => nmCk_ok (by decide) (by decide +kernel) (by decide +kernel) (by decide +kernel) nmc9 (by decide +kernel) h1 h2 hk
  have i0 : FInv ⟨1, 50, 1, 49, 500000000, 500000000⟩ := ⟨by decide, by decide, by decide, by decide, by decide, by decide, by decide⟩
  obtain ⟨i1, s1⟩ := far_ok hck i0 nm9_0
  obtain ⟨i2, s2⟩ := far_ok hck i1 nm9_1
  have s2 := s1.trans s2 ⟨i0.b1, i1.b1, i2.b1⟩
  obtain ⟨i3, s3⟩ := far_ok hck i2 nm9_2
  have s3 := s2.trans s3 ⟨i0.b1, i2.b1, i3.b1⟩
  obtain ⟨i4, s4⟩ := far_ok hck i3 nm9_3
  have s4 := s3.trans s4 ⟨i0.b1, i3.b1, i4.b1⟩
  obtain ⟨i5, s5⟩ := far_ok hck i4 nm9_4
  have s5 := s4.trans s5 ⟨i0.b1, i4.b1, i5.b1⟩
  obtain ⟨i6, s6⟩ := far_ok hck i5 nm9_5
  have s6 := s5.trans s6 ⟨i0.b1, i5.b1, i6.b1⟩
  obtain ⟨i7, s7⟩ := far_ok hck i6 nm9_6
  have s7 := s6.trans s7 ⟨i0.b1, i6.b1, i7.b1⟩
  obtain ⟨i8, s8⟩ := far_ok hck i7 nm9_7
  have s8 := s7.trans s8 ⟨i0.b1, i7.b1, i8.b1⟩
  obtain ⟨i9, s9⟩ := far_ok hck i8 nm9_8
  have s9 := s8.trans s9 ⟨i0.b1, i8.b1, i9.b1⟩
  obtain ⟨i10, s10⟩ := far_ok hck i9 nm9_9
  have s10 := s9.trans s10 ⟨i0.b1, i9.b1, i10.b1⟩
  obtain ⟨i11, s11⟩ := far_ok hck i10 nm9_10
  have s11 := s10.trans s11 ⟨i0.b1, i10.b1, i11.b1⟩
  obtain ⟨i12, s12⟩ := far_ok hck i11 nm9_11
  have s12 := s11.trans s12 ⟨i0.b1, i11.b1, i12.b1⟩
  obtain ⟨i13, s13⟩ := far_ok hck i12 nm9_12
  have s13 := s12.trans s13 ⟨i0.b1, i12.b1, i13.b1⟩
  obtain ⟨i14, s14⟩ := far_ok hck i13 nm9_13
  have s14 := s13.trans s14 ⟨i0.b1, i13.b1, i14.b1⟩
  obtain ⟨i15, s15⟩ := far_ok hck i14 nm9_14
  have s15 := s14.trans s15 ⟨i0.b1, i14.b1, i15.b1⟩
  obtain ⟨i16, s16⟩ := far_ok hck i15 nm9_15
  have s16 := s15.trans s16 ⟨i0.b1, i15.b1, i16.b1⟩
  exact ⟨_, s16, by decide, by decide, by decide, by decide⟩
end Go.Proofs.YteojhdahhaodoaaGreatDoor
