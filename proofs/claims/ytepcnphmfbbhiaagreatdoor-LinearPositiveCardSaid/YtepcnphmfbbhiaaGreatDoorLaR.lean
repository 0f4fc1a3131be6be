/- Part of the proof that all functions of the layer agree with the reference implementation. -/
import Derived.Test.YtepcnphmfbbhiaaGreatDoorMatToLinK
import Derived.Test.YtepcnphmfbbhiaaGreatDoorLa1ToLa6
set_option linter.all false
set_option linter.all false
namespace Go.Proofs.YtepcnphmfbbhiaaGreatDoor
open Go Go.Eng Go.RowKit
def qv (a : R) : Rat := (valZ a.1 : Rat) / (valZ a.2 : Rat)
theorem okR_gcd {a : R} (h : okR a = true) : Int.gcd (valZ a.1) (valZ a.2) = 1 := by
  have h1 := okR_1 h
  have h2 := okR_2 h
  simp only [okR, Bool.and_eq_true, decide_eq_true_eq] at h
  have h3 := h.2
  unfold gcdI outI at h3
  rw [h1, h2, Bool.and_self, if_pos rfl] at h3
  split at h3
  · have h4 : showI ((Int.gcd (valZ a.1) (valZ a.2) : Nat) : Int) = showI 1 := by
      have : showI 1 = [49] := by decide +kernel
      rw [this]; exact Option.some.inj h3
    have := showI_inj h4
    omega
  · cases h3
theorem rat_int_inj {a b : Int} (h : (a : Rat) = b) : a = b := by simpa using h
theorem rat_ne {a : Int} (h : a ≠ 0) : (a : Rat) ≠ 0 := fun e => h (rat_int_inj (by simpa using e))
theorem den_ne {a : R} (h : okR a = true) : (valZ a.2 : Rat) ≠ 0 := rat_ne (by have := okR_pos h; omega)
theorem cross_of {a : R} (h : okR a = true) {u s : Int} (hs : s ≠ 0) (hq : qv a = (u : Rat) / (s : Rat)) : valZ a.1 * s = u * valZ a.2 := by
  have h1 := den_ne h
  have h2 := rat_ne hs
  unfold qv at hq
  refine rat_int_inj ?_
  rw [Rat.intCast_mul, Rat.intCast_mul]
  grind
theorem dvd_of_gcd {a b c : Int} (h : a ∣ b * c) (hg : Int.gcd a c = 1) : a ∣ b := by
  have h1 : a.natAbs ∣ b.natAbs * c.natAbs := by rw [← Int.natAbs_mul]; exact Int.natAbs_dvd_natAbs.2 h
  exact Int.natAbs_dvd_natAbs.1 (Nat.Coprime.dvd_of_dvd_mul_right (show Nat.Coprime a.natAbs c.natAbs from hg) h1)
theorem ndvd {a : R} (h : okR a = true) {u s : Int} (hs : s ≠ 0) (hq : qv a = (u : Rat) / (s : Rat)) : valZ a.1 ∣ u ∧ valZ a.2 ∣ s := by
  have hc := cross_of h hs hq
  have hg := okR_gcd h
  constructor
  · exact dvd_of_gcd (c := valZ a.2) ⟨s, by rw [← hc]⟩ hg
  · exact dvd_of_gcd (c := valZ a.1) ⟨u, by rw [Int.mul_comm, hc, Int.mul_comm]⟩ (by rw [Int.gcd_comm]; exact hg)
theorem natAbs_le_of_dvd {a b : Int} (hb : b ≠ 0) (h : a ∣ b) : a.natAbs ≤ b.natAbs := Nat.le_of_dvd (by omega) (Int.natAbs_dvd_natAbs.2 h)
theorem num_le {a : R} (h : okR a = true) {u s : Int} (hs : s ≠ 0) (hq : qv a = (u : Rat) / (s : Rat)) : (valZ a.1).natAbs ≤ u.natAbs := by
  by_cases hu : u = 0
  · have := cross_of h hs hq
    subst hu
    have h0 : valZ a.1 * s = 0 := by rw [this]; simp
    rcases Int.mul_eq_zero.1 h0 with e | e
    · rw [e]; simp
    · exact absurd e hs
  · exact natAbs_le_of_dvd hu (ndvd h hs hq).1
theorem den_le {a : R} (h : okR a = true) {u s : Int} (hs : s ≠ 0) (hq : qv a = (u : Rat) / (s : Rat)) : (valZ a.2).natAbs ≤ s.natAbs := natAbs_le_of_dvd hs (ndvd h hs hq).2
theorem qv_inj {a b : R} (ha : okR a = true) (hb : okR b = true) (h : qv a = qv b) : a = b := by
  have pa := okR_pos ha
  have pb := okR_pos hb
  have h1 := ndvd ha (u := valZ b.1) (s := valZ b.2) (by omega) h
  have h2 := ndvd hb (u := valZ a.1) (s := valZ a.2) (by omega) h.symm
  have e2 : valZ a.2 = valZ b.2 := Int.dvd_antisymm (by omega) (by omega) h1.2 h2.2
  have hc := cross_of ha (u := valZ b.1) (s := valZ b.2) (by omega) h
  rw [e2] at hc
  have e1 : valZ a.1 = valZ b.1 := Int.eq_of_mul_eq_mul_right (by omega) hc
  exact Prod.ext (valZ_inj (okR_1 ha) (okR_1 hb) e1) (valZ_inj (okR_2 ha) (okR_2 hb) e2)
theorem qv_z0 : qv z0 = 0 := by
  unfold qv z0; rw [show valZ [48] = 0 by decide +kernel]; simp; grind
theorem qv_o1 : qv o1 = 1 := by
  unfold qv o1; rw [show valZ [49] = 1 by decide +kernel]; simp; grind
theorem qv_zero {a : R} (h : okR a = true) : qv a = 0 ↔ a = z0 :=
  ⟨fun e => qv_inj h okR_zero (by rw [e]; exact qv_z0.symm), fun e => by rw [e]; exact qv_z0⟩
def VecR (q : R) : Prop := okR q = true ∧ (-999 ≤ valZ q.1 ∧ valZ q.1 ≤ 999) ∧ valZ q.2 ≤ 60
theorem make_val {n d : Int} (hd : d ≠ 0) {q : R} (h : makeR n d = some q) : qv q = (n : Rat) / (d : Rat) := by
  unfold makeR at h
  rw [if_neg hd] at h
  cases h
  unfold qv
  rw [valZ_showI, valZ_showI]
  unfold redN redD
  have hg : 0 < Int.gcd n d := Int.gcd_pos_of_ne_zero_right _ hd
  obtain ⟨g, hgg⟩ : ∃ g : Nat, Int.gcd n d = g := ⟨_, rfl⟩
  rw [hgg] at hg ⊢
  obtain ⟨x, hx⟩ : (g : Int) ∣ n := by rw [← hgg]; exact Int.gcd_dvd_left ..
  obtain ⟨y, hy⟩ : (g : Int) ∣ d := by rw [← hgg]; exact Int.gcd_dvd_right ..
  have hgz : (g : Int) ≠ 0 := by omega
  have hy0 : y ≠ 0 := fun e => hd (by rw [hy, e]; simp)
  have q1 := rat_ne hgz
  have q2 := rat_ne hy0
  by_cases hs : d < 0
  · rw [if_pos hs, if_pos hs, hx, hy, ← Int.mul_neg, ← Int.mul_neg, Int.mul_ediv_cancel_left _ hgz, Int.mul_ediv_cancel_left _ hgz]
    rw [Rat.intCast_mul, Rat.intCast_mul, Rat.intCast_neg, Rat.intCast_neg]
    grind
  · rw [if_neg hs, if_neg hs, hx, hy, Int.mul_ediv_cancel_left _ hgz, Int.mul_ediv_cancel_left _ hgz]
    rw [Rat.intCast_mul, Rat.intCast_mul]
    grind
theorem both_val {n d : Int} (hd : d ≠ 0) (h1 : fits n = true) (h2 : fits d = true) : ∃ q, bothF n d = some q ∧ okR q = true ∧ qv q = (n : Rat) / (d : Rat) := by
  unfold bothF
  rw [h1, h2, Bool.and_self, if_pos rfl]
  cases h : makeR n d with
  | none => unfold makeR at h; rw [if_neg hd] at h; cases h
  | some q => exact ⟨q, rfl, okR_make h1 h2 h, make_val hd h⟩
theorem both_fits {n d : Int} {q : R} (h : bothF n d = some q) : fits n = true ∧ fits d = true := by
  unfold bothF at h
  cases h1 : fits n <;> cases h2 : fits d <;> simp [h1, h2] at h ⊢
def T200 : Nat := 10 ^ 200
theorem fits_of {n : Int} {b : Nat} (h : n.natAbs ≤ b) (hb : b < T200) : fits n = true := by unfold fits; exact decide_eq_true (Nat.lt_of_le_of_lt h hb)
structure Bq (a : R) (x : Rat) (N D : Nat) : Prop where
  ok : okR a = true
  eq : qv a = x
  num : (valZ a.1).natAbs ≤ N
  den : (valZ a.2).natAbs ≤ D
theorem Bq.of {a : R} {u s : Int} {N D : Nat} (h : okR a = true) (hs : s ≠ 0) (hq : qv a = (u : Rat) / (s : Rat)) (hu : u.natAbs ≤ N) (hd : s.natAbs ≤ D) : Bq a ((u : Rat) / (s : Rat)) N D :=
  ⟨h, hq, Nat.le_trans (num_le h hs hq) hu, Nat.le_trans (den_le h hs hq) hd⟩
theorem mulR_val {a b : R} {x y : Rat} {N D N' D' : Nat} (ha : Bq a x N D) (hb : Bq b y N' D') (h1 : N * N' < T200) (h2 : D * D' < T200) : ∃ q, mulR a b = some q ∧ okR q = true ∧ qv q = x * y := by
  have p1 := okR_pos ha.ok
  have p2 := okR_pos hb.ok
  obtain ⟨q, e, ok, hv⟩ := both_val (n := valZ a.1 * valZ b.1) (d := valZ a.2 * valZ b.2) (Int.ne_of_gt (Int.mul_pos p1 p2))
    (fits_of (b := N * N') (by rw [Int.natAbs_mul]; exact Nat.mul_le_mul ha.num hb.num) h1) (fits_of (b := D * D') (by rw [Int.natAbs_mul]; exact Nat.mul_le_mul ha.den hb.den) h2)
  refine ⟨q, by unfold mulR; rw [ha.ok, hb.ok, Bool.and_self, if_pos rfl]; exact e, ok, ?_⟩
  rw [hv, ← ha.eq, ← hb.eq, Rat.intCast_mul, Rat.intCast_mul]
  unfold qv
  have q1 := den_ne ha.ok
  have q2 := den_ne hb.ok
  grind
theorem divR_val {a b : R} {x y : Rat} {N D N' D' : Nat} (ha : Bq a x N D) (hb : Bq b y N' D') (h0 : y ≠ 0) (h1 : N * D' < T200) (h2 : D * N' < T200) : ∃ q, divR a b = some q ∧ okR q = true ∧ qv q = x / y := by
  have p1 := okR_pos ha.ok
  have q1 := den_ne ha.ok
  have q2 := den_ne hb.ok
  have hb0 : valZ b.1 ≠ 0 := fun e => h0 (by rw [← hb.eq]; unfold qv; rw [e]; simp; grind)
  have q3 := rat_ne hb0
  obtain ⟨q, e, ok, hv⟩ := both_val (n := valZ a.1 * valZ b.2) (d := valZ a.2 * valZ b.1) (fun e => by rcases Int.mul_eq_zero.1 e with e | e <;> omega)
    (fits_of (b := N * D') (by rw [Int.natAbs_mul]; exact Nat.mul_le_mul ha.num hb.den) h1) (fits_of (b := D * N') (by rw [Int.natAbs_mul]; exact Nat.mul_le_mul ha.den hb.num) h2)
  refine ⟨q, by unfold divR; rw [ha.ok, hb.ok, Bool.and_self, if_pos rfl]; exact e, ok, ?_⟩
  rw [hv, ← ha.eq, ← hb.eq, Rat.intCast_mul, Rat.intCast_mul]
  unfold qv
  grind
theorem subR_val {a b : R} {x y : Rat} {N D N' D' : Nat} (ha : Bq a x N D) (hb : Bq b y N' D') (h1 : N * D' + N' * D < T200) (h2 : D * D' < T200) : ∃ q, subR a b = some q ∧ okR q = true ∧ qv q = x - y := by
  have p1 := okR_pos ha.ok
  have p2 := okR_pos hb.ok
  have f1 : (valZ a.1 * valZ b.2).natAbs ≤ N * D' := by rw [Int.natAbs_mul]; exact Nat.mul_le_mul ha.num hb.den
  have f2 : (valZ b.1 * valZ a.2).natAbs ≤ N' * D := by rw [Int.natAbs_mul]; exact Nat.mul_le_mul hb.num ha.den
  obtain ⟨q, e, ok, hv⟩ := both_val (n := valZ a.1 * valZ b.2 - valZ b.1 * valZ a.2) (d := valZ a.2 * valZ b.2) (Int.ne_of_gt (Int.mul_pos p1 p2))
    (fits_of (b := N * D' + N' * D) (by omega) h1) (fits_of (b := D * D') (by rw [Int.natAbs_mul]; exact Nat.mul_le_mul ha.den hb.den) h2)
  refine ⟨q, by unfold subR; rw [ha.ok, hb.ok, Bool.and_self, if_pos rfl, fits_of f1 (by omega), fits_of f2 (by omega), Bool.and_self, if_pos rfl]; exact e, ok, ?_⟩
  rw [hv, ← ha.eq, ← hb.eq, Rat.intCast_mul, Rat.intCast_sub, Rat.intCast_mul, Rat.intCast_mul]
  unfold qv
  have q1 := den_ne ha.ok
  have q2 := den_ne hb.ok
  grind
theorem addR_val {a b : R} {x y : Rat} {N D N' D' : Nat} (ha : Bq a x N D) (hb : Bq b y N' D') (h1 : N * D' + N' * D < T200) (h2 : D * D' < T200) : ∃ q, addR a b = some q ∧ okR q = true ∧ qv q = x + y := by
  have p1 := okR_pos ha.ok
  have p2 := okR_pos hb.ok
  have f1 : (valZ a.1 * valZ b.2).natAbs ≤ N * D' := by rw [Int.natAbs_mul]; exact Nat.mul_le_mul ha.num hb.den
  have f2 : (valZ b.1 * valZ a.2).natAbs ≤ N' * D := by rw [Int.natAbs_mul]; exact Nat.mul_le_mul hb.num ha.den
  obtain ⟨q, e, ok, hv⟩ := both_val (n := valZ a.1 * valZ b.2 + valZ b.1 * valZ a.2) (d := valZ a.2 * valZ b.2) (Int.ne_of_gt (Int.mul_pos p1 p2))
    (fits_of (b := N * D' + N' * D) (by omega) h1) (fits_of (b := D * D') (by rw [Int.natAbs_mul]; exact Nat.mul_le_mul ha.den hb.den) h2)
  refine ⟨q, by unfold addR; rw [ha.ok, hb.ok, Bool.and_self, if_pos rfl, fits_of f1 (by omega), fits_of f2 (by omega), Bool.and_self, if_pos rfl]; exact e, ok, ?_⟩
  rw [hv, ← ha.eq, ← hb.eq, Rat.intCast_mul, Rat.intCast_add, Rat.intCast_mul, Rat.intCast_mul]
  unfold qv
  have q1 := den_ne ha.ok
  have q2 := den_ne hb.ok
  grind
end Go.Proofs.YtepcnphmfbbhiaaGreatDoor
