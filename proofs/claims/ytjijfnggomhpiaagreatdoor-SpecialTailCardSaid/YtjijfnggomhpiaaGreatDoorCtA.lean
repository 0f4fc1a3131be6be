/- Part of the proof of a statement about the special functions. -/
import Derived.Test.YtjijfnggomhpiaaGreatDoorEngVToDcN
import Derived.Test.YtjijfnggomhpiaaGreatDoorTtTA
set_option linter.all false
namespace Go.Proofs.YtjijfnggomhpiaaGreatDoor
open Go Go.Eng Go.RowKit
theorem red_cop {a : Int} {d : Nat} (hd : 0 < d) (hg : Int.gcd a d = 1) : redN a d = a ∧ (redD a d).toNat = d := by
  unfold redN redD
  rw [if_neg (by omega), if_neg (by omega), hg]
  simp
theorem red_nd {N D : Nat} (hD : 0 < D) : ∃ n d g : Nat, N = n * g ∧ D = d * g ∧ 0 < g ∧ 0 < d ∧ Nat.gcd n d = 1 := by
  have hg : 0 < Nat.gcd N D := Nat.gcd_pos_of_pos_right _ hD
  have h1 := Nat.div_mul_cancel (Nat.gcd_dvd_left N D)
  have h2 := Nat.div_mul_cancel (Nat.gcd_dvd_right N D)
  refine ⟨N / Nat.gcd N D, D / Nat.gcd N D, Nat.gcd N D, h1.symm, h2.symm, hg, ?_, Nat.coprime_div_gcd_div_gcd hg⟩
  rcases Nat.eq_zero_or_pos (D / Nat.gcd N D) with e | e
  · rw [e] at h2; omega
  · exact e
theorem qR_scale {a b : Int} {n d g : Nat} (hd : 0 < d) (hg : 0 < g) (ha : a = (n : Int) * g) (hb : b = (d : Int) * g) : qR a b = qR n d := by
  subst ha hb
  have h1 : (0 : Int) < (d : Int) := by omega
  have h2 : (0 : Int) < (g : Int) := by omega
  exact qR_congr (Int.mul_pos h1 h2) h1 (by rw [Int.mul_assoc, Int.mul_comm (g : Int)])
theorem qR_sgn {x y : Int} (hy : 0 < y) : qR x (-y) = qR (-x) y := by
  unfold qR redN redD
  rw [if_pos (by omega), if_pos (by omega), if_neg (by omega), if_neg (by omega), Int.gcd_neg, Int.neg_gcd, Int.neg_neg]
theorem divR_m2 {a b : Int} (h1 : Q9 a b) : divR (qR a b) (qR (-2) 1) = some (qR (-a) (2 * b)) := by
  have h2 : Q9 (-2) 1 := ⟨by decide, by decide, by decide⟩
  have e1 : redN (-2) 1 = -2 := by decide
  have e2 : redD (-2) 1 = 1 := by decide
  unfold divR
  rw [h1.ok, h2.ok, qR_val.1, qR_val.2, qR_val.1, qR_val.2, e1, e2]
  have r1 := h1.red
  have m1 := abs_mul r1.1 (b := 1) (by decide)
  have m3 := abs_mul (a := redD a b) (b := -2) (by have := r1.2; omega) (by decide)
  simp only [Bool.and_self, if_true]
  refine both_q (fz_180 m1) (fz_180 m3) ?_
  have hp := r1.2.1
  rw [makeR_q (by omega)]
  congr 1
  rw [show redD a b * -2 = -(redD a b * 2) by omega, qR_sgn (by omega)]
  refine qR_congr (by omega) (by have := h1.2.1; omega) ?_
  have e3 := rq_cross (n := a) h1.2.1
  rw [Int.mul_one]
  have e4 : -redN a b * (2 * b) = -2 * (redN a b * b) := by rw [Int.neg_mul]; grind
  have e5 : -a * (redD a b * 2) = -2 * (a * redD a b) := by grind
  rw [e4, e5, e3]
theorem maxQ_is {k T k' T' : Int} : (maxQ k T k' T' = qR k T ∧ k' * T ≤ k * T') ∨ (maxQ k T k' T' = qR k' T' ∧ k * T' ≤ k' * T) := by
  unfold maxQ
  by_cases h : k * T' < k' * T
  · exact .inr ⟨mn_t (decide_eq_true (cmpI_gt0 h)), by omega⟩
  · exact .inl ⟨mn_f (decide_eq_false (cmpI_ngt h)), by omega⟩
theorem minQ_is {k T k' T' : Int} : (minQ k T k' T' = qR k T ∧ k * T' ≤ k' * T) ∨ (minQ k T k' T' = qR k' T' ∧ k' * T ≤ k * T') := by
  unfold minQ
  by_cases h : k' * T < k * T'
  · exact .inr ⟨mn_t (decide_eq_true (cmpI_lt0 h)), by omega⟩
  · exact .inl ⟨mn_f (decide_eq_false (cmpI_nlt h)), by omega⟩
theorem meet_iv {k u k' u' T T' : Int} (q1 : Q9 k T) (q2 : Q9 u T) (q3 : Q9 k' T') (q4 : Q9 u' T') (h1 : k * T' ≤ u' * T) (h2 : k' * T ≤ u * T') (h3 : k ≤ u) (h4 : k' ≤ u') : IvR (maxQ k T k' T', minQ u T u' T') := by
  have p1 : k * T ≤ u * T := Int.mul_le_mul_of_nonneg_right h3 (Int.le_of_lt q1.2.1)
  have p2 : k' * T' ≤ u' * T' := Int.mul_le_mul_of_nonneg_right h4 (Int.le_of_lt q3.2.1)
  rcases maxQ_is (k := k) (T := T) (k' := k') (T' := T') with ⟨e, _⟩ | ⟨e, _⟩ <;> rcases minQ_is (k := u) (T := T) (k' := u') (T' := T') with ⟨g, _⟩ | ⟨g, _⟩ <;> rw [e, g]
  · exact ⟨_, _, _, _, rfl, rfl, q1, q2, p1⟩
  · exact ⟨_, _, _, _, rfl, rfl, q1, q4, h1⟩
  · exact ⟨_, _, _, _, rfl, rfl, q3, q2, h2⟩
  · exact ⟨_, _, _, _, rfl, rfl, q3, q4, p2⟩
def ChC (a b : Int) (fr pl : Nat) (f c : Int) : Prop := ∀ W, Tb W → Calls Tryz.prog 15 #[.agg #[S (qR a b).1, S (qR a b).2], .int .i64 ((fr : Nat) : Int), .int .i64 ((pl : Nat) : Int)] W (Ret W fun v _ => v = CellV pl f c)
def ExC (a b : Int) (pl : Nat) (f c : Int) : Prop := ∀ W, Tb W → Calls Tryz.prog 16 #[.agg #[S (qR a b).1, S (qR a b).2], .int .i64 ((pl : Nat) : Int)] W (Ret W fun v _ => v = CellV pl f c)
def NmC (a b : Int) (pl : Nat) (f c : Int) : Prop := ∀ W, Tb W → Calls Tryz.prog 18 #[.agg #[S (qR a b).1, S (qR a b).2], .int .i64 ((pl : Nat) : Int)] W (Ret W fun v _ => v = CellV pl f c)
theorem chi_z {W : World} {fr d j : Nat} (h1 : 0 < fr) (h20 : fr ≤ 20) (hd : 0 < d) (hd50 : d ≤ 10 ^ 6) (hj : j ≤ 12) (ht : Tb W) : Calls Tryz.prog 15 #[.agg #[S (qR 0 (d : Int)).1, S (qR 0 (d : Int)).2], .int .i64 ((fr : Nat) : Int), .int .i64 ((j : Nat) : Int)] W (Ret W fun v _ => v = CellV j (tenI j) (tenI j)) := by
  have q := q9_12 (a := 0) (b := (d : Int)) (by decide) (by omega) (by omega)
  refine Chi_ok h1 h20 (fun W b1 e hB => ?_) ht
  exact cell_at2 (lb := [.pointer (some ⟨b1, 0, none⟩)]) ten_fl.1 ten_fl.2 rfl q (by decide) (by omega) q01 q9l0 q100 q9_100 q11 q9l1 (rightB_ok hj (by omega) (by omega)) hj (zero_q (by omega) rfl) (ht.ext e)
theorem chi_cel {fr n d pl : Nat} {f : Int} (h1 : 0 < fr) (h20 : fr ≤ 20) (hn : 0 < n) (hn12 : n < 10 ^ 12) (hd : 0 < d) (hd12 : d < 10 ^ 12) (h100 : n ≤ 100 * d) (hp : pl ≤ 12) (h : CelC pl (fun k => tlP (10 ^ k) k n d fr) f) : ChC n d fr pl f (f + 1) := by
  intro W ht
  exact chi_q h1 h20 hn hn12 hd hd12 h100 hp (celC_find (nst_chi h1 h20 hn (by omega) hd (by omega) h100) hp h) ht
theorem t8 : tenI 8 = 100000000 := by decide
theorem t6 : tenI 6 = 1000000 := by decide
theorem partA {N D : Nat} (hD : 0 < D) (hD50 : D ≤ 50) (h36 : N ≤ 36 * D) : ∃ f c : Int, 0 ≤ f ∧ c ≤ 100000001 ∧ f ≤ c ∧ ChC N D 2 8 f c ∧ ExC (-(N : Int)) (2 * (D : Int)) 8 f c := by
  rcases Nat.eq_zero_or_pos N with e | hN
  · subst e
    refine ⟨tenI 8, tenI 8, by rw [t8]; decide, by rw [t8]; decide, Int.le_refl _, fun W ht => chi_z (by decide) (by decide) hD (by omega) (by decide) ht, fun W ht => ?_⟩
    exact exp_z (by omega) (by omega) (by decide) (by decide) ht
  · obtain ⟨n, d, g, eN, eD, hg, hd, hc⟩ := red_nd (N := N) hD
    have hn : 0 < n := by
      rcases Nat.eq_zero_or_pos n with z | z
      · subst z; omega
      · exact z
    have hd50 : d ≤ 50 := by
      have : d ≤ D := by rw [eD]; exact Nat.le_mul_of_pos_right _ hg
      omega
    have hn36 : n ≤ 36 * d := by
      refine Nat.le_of_mul_le_mul_right ?_ hg
      rw [← eN, Nat.mul_assoc, ← eD]; exact h36
    obtain ⟨v, hv, hC, hE⟩ := (tt_all hn hd hd50 hn36 hc).two
    refine ⟨v, v + 1, by omega, by omega, by omega, ?_, ?_⟩
    · intro W ht
      rw [qR_scale (a := (N : Int)) (b := (D : Int)) hd hg (by rw [eN]; exact Int.natCast_mul _ _) (by rw [eD]; exact Int.natCast_mul _ _)]
      exact chi_cel (by decide) (by decide) hn (by omega) hd (by omega) (by omega) (by decide) hC W ht
    · intro W ht
      obtain ⟨a, b, k, ea, eb, hk, hb, hab⟩ := red_nd (N := n) (D := 2 * d) (by omega)
      have ha : 0 < a := by
        rcases Nat.eq_zero_or_pos a with z | z
        · subst z; omega
        · exact z
      have hle : a ≤ 18 * b := by
        refine Nat.le_of_mul_le_mul_right ?_ hk
        rw [← ea, Nat.mul_assoc, ← eb]; omega
      have hb9 : b ≤ 100 := by
        have : b ≤ 2 * d := by rw [eb]; exact Nat.le_mul_of_pos_right _ hk
        omega
      have hgi : Int.gcd (-(a : Int)) (b : Int) = 1 := by rw [Int.neg_gcd]; exact hab
      have hC2 := hE a b k ea eb
      have eq : qR (-(N : Int)) (2 * (D : Int)) = qR (-(a : Int)) (b : Int) := by
        refine qR_congr (by omega) (by omega) ?_
        have x1 : (N : Int) * b = a * (2 * D) := by
          have : N * b = a * (2 * D) := by
            have h3 : n * b = a * (2 * d) := by rw [ea, eb]; ac_rfl
            have h4 : n * b * g = a * (2 * d) * g := by rw [h3]
            rw [eN, eD]
            have h5 : n * g * b = n * b * g := by ac_rfl
            have h6 : a * (2 * (d * g)) = a * (2 * d) * g := by ac_rfl
            rw [h5, h6, h4]
          exact_mod_cast this
        rw [Int.neg_mul, Int.neg_mul, x1]
      rw [eq]
      obtain ⟨r1, r2⟩ := red_cop (a := -(a : Int)) hb hgi
      refine exp_q (by omega) (by omega) (by omega) (by omega) (by omega) (by omega) (by decide) ?_ ht
      unfold expBd
      rw [r1, r2]
      exact celC_find (nst_exp hb (by omega) (by omega) (by omega)) (by decide) hC2
theorem partB {M E : Nat} (hE : 0 < E) (hE50 : E ≤ 50) (h6 : M ≤ 6 * E) : ∃ f c g k : Int, -2 ≤ f ∧ c ≤ 100000001 ∧ f ≤ c ∧ 0 ≤ g ∧ k ≤ 100000001 ∧ g ≤ k ∧ f ≤ 200000000 - 2 * g ∧ 200000000 - 2 * k ≤ c ∧ ChC ((M : Int) * M) ((E : Int) * E) 1 8 f c ∧ NmC M E 8 g k := by
  rcases Nat.eq_zero_or_pos M with e | hM
  · subst e
    have hd2 : E * E ≤ 50 * 50 := Nat.mul_le_mul hE50 hE50
    have hd3 : 0 < E * E := Nat.mul_pos hE hE
    have e1 : flI 1 2 (tenI 8) = 50000000 := by decide
    have e2 : clI 1 2 (tenI 8) = 50000000 := by decide
    refine ⟨tenI 8, tenI 8, 50000000, 50000000, by rw [t8]; decide, by rw [t8]; decide, Int.le_refl _, by decide, by decide, by decide, by rw [t8]; decide, by rw [t8]; decide, fun W ht => ?_, fun W ht => ?_⟩
    · have := chi_z (W := W) (fr := 1) (d := E * E) (j := 8) (by decide) (by decide) hd3 (by omega) (by decide) ht
      rw [show ((0 : Nat) : Int) * ((0 : Nat) : Int) = 0 from rfl, show (E : Int) * (E : Int) = ((E * E : Nat) : Int) from (Int.natCast_mul _ _).symm]
      exact this
    · have := normal_z (w := W) (a := 0) (b := (E : Int)) (pl := 8) (by omega) (by omega) rfl (by decide) ht
      rw [e1, e2] at this
      exact this
  · obtain ⟨n, d, g, eM, eE, hg, hd, hc⟩ := red_nd (N := M) hE
    have hn : 0 < n := by
      rcases Nat.eq_zero_or_pos n with z | z
      · subst z; omega
      · exact z
    have hd50 : d ≤ 50 := by
      have : d ≤ E := by rw [eE]; exact Nat.le_mul_of_pos_right _ hg
      omega
    have hn6 : n ≤ 6 * d := by
      refine Nat.le_of_mul_le_mul_right ?_ hg
      rw [← eM, Nat.mul_assoc, ← eE]; exact h6
    obtain ⟨v, c, v1, c1, m1, m2, hN, hC⟩ := (ts_all hn hd hd50 hn6 hc).ex
    have hnn : n * n ≤ 300 * 300 := Nat.mul_le_mul (by omega) (by omega)
    have hdd : d * d ≤ 50 * 50 := Nat.mul_le_mul hd50 hd50
    have hdp : 0 < d * d := Nat.mul_pos hd hd
    have hnp : 0 < n * n := Nat.mul_pos hn hn
    have h36 : n * n ≤ 36 * (d * d) := by
      have := Nat.mul_le_mul hn6 hn6
      have e : 6 * d * (6 * d) = 36 * (d * d) := by rw [Nat.mul_mul_mul_comm]
      omega
    have c0 : (c : Int) ≤ 100000000 := by omega
    refine ⟨100000000 - c - 1, 100000000 - c - 1 + 1, 50000000 + v, 50000000 + v + 1, by omega, by omega, by omega, by omega, by omega, by omega, by omega, by omega, fun W ht => ?_, fun W ht => ?_⟩
    · have eq : qR ((M : Int) * M) ((E : Int) * E) = qR ((n * n : Nat) : Int) ((d * d : Nat) : Int) := by
        refine qR_scale (g := g * g) hdp (Nat.mul_pos hg hg) ?_ ?_
        · have : M * M = n * n * (g * g) := by rw [eM]; ac_rfl
          exact_mod_cast this
        · have : E * E = d * d * (g * g) := by rw [eE]; ac_rfl
          exact_mod_cast this
      rw [eq]
      exact chi_cel (by decide) (by decide) hnp (by omega) hdp (by omega) (by omega) (by decide) hC W ht
    · rw [qR_scale (a := (M : Int)) (b := (E : Int)) hd hg (by rw [eM]; exact Int.natCast_mul _ _) (by rw [eE]; exact Int.natCast_mul _ _)]
      obtain ⟨r1, r2⟩ := red_cop (a := (n : Int)) hd hc
      refine normal_q (by omega) (by omega) (by omega) (by omega) (by omega) (by omega) (by decide) ?_ ht
      unfold nrmBd
      rw [r1, r2]
      have hq : 2 * (((n : Int)).natAbs * d) + 2 * (((n : Int)).natAbs * ((n : Int)).natAbs) + d * d + d < 10 ^ 15 := by
        have x1 : ((n : Int)).natAbs = n := rfl
        have x2 : n * d ≤ 300 * 50 := Nat.mul_le_mul (by omega) hd50
        rw [x1]; omega
      exact celC_find (nst_nrm hd (by omega) (by show n ≤ 8 * d; omega) hq) (by decide) hN
theorem partC {N D fr : Nat} (h1 : 1 ≤ fr) (h19 : fr ≤ 19) (hD : 0 < D) (hD50 : D ≤ 50) (h36 : N ≤ 36 * D) : ∃ f1 c1 f2 c2 f3 c3 : Int, -2 ≤ f3 ∧ c2 ≤ 1000000 ∧ f3 ≤ f1 ∧ c3 ≤ c1 ∧ f1 ≤ f2 ∧ c1 ≤ c2 ∧ f1 ≤ c1 ∧ f2 ≤ c2 ∧ f3 ≤ c3 ∧
    ChC N D fr 6 f1 c1 ∧ ChC N D (fr + 1) 6 f2 c2 ∧ ChC (7 * (N : Int) + D) (7 * (D : Int)) fr 6 f3 c3 := by
  rcases Nat.eq_zero_or_pos N with e | hN
  · subst e
    obtain ⟨C, C', hC⟩ := (tt_all (n := 1) (d := 7) (by decide) (by decide) (by decide) (by decide) (by decide)).all
    obtain ⟨k1, _, k3, k4, _⟩ := hC fr h1 (by omega)
    have x := frR_cel (c := 6) (by decide) (by decide) (by omega) (by omega) (by decide) (by decide) (by decide) (by decide) (by decide) (by decide) (by omega) k1
    rw [t6] at x
    refine ⟨tenI 6, tenI 6, tenI 6, tenI 6, 1000000 - (C fr : Int) - 1, 1000000 - (C fr : Int) - 1 + 1, by omega, by rw [t6]; decide, by rw [t6]; omega, by rw [t6]; omega, Int.le_refl _, Int.le_refl _, Int.le_refl _, Int.le_refl _, by omega,
      fun W ht => chi_z (by omega) (by omega) hD (by omega) (by decide) ht, fun W ht => chi_z (by omega) (by omega) hD (by omega) (by decide) ht, fun W ht => ?_⟩
    have eq : qR (7 * ((0 : Nat) : Int) + (D : Int)) (7 * (D : Int)) = qR ((1 : Nat) : Int) ((7 : Nat) : Int) := qR_congr (by omega) (by decide) (by omega)
    rw [eq]
    exact chi_cel (by omega) (by omega) (by decide) (by decide) (by decide) (by decide) (by decide) (by decide) x W ht
  · obtain ⟨n, d, g, eN, eD, hg, hd, hc⟩ := red_nd (N := N) hD
    have hn : 0 < n := by
      rcases Nat.eq_zero_or_pos n with z | z
      · subst z; omega
      · exact z
    have hd50 : d ≤ 50 := by
      have : d ≤ D := by rw [eD]; exact Nat.le_mul_of_pos_right _ hg
      omega
    have hn36 : n ≤ 36 * d := by
      refine Nat.le_of_mul_le_mul_right ?_ hg
      rw [← eN, Nat.mul_assoc, ← eD]; exact h36
    obtain ⟨C, C', hC⟩ := (tt_all hn hd hd50 hn36 hc).all
    obtain ⟨k1, k2, k3, k4, _⟩ := hC fr h1 (by omega)
    obtain ⟨j1, _, j3, j4, j5⟩ := hC (fr + 1) (by omega) (by omega)
    have j6 := j5 (by omega)
    rw [Nat.add_sub_cancel] at j6
    have x1 := frR_cel (c := 6) (by decide) (by decide) (by omega) (by omega) hn (by omega) hd (by omega) (by omega) (by decide) (by omega) k1
    have x2 := frR_cel (c := 6) (by decide) (by decide) (by omega) (by omega) hn (by omega) hd (by omega) (by omega) (by decide) (by omega) j1
    have x3 := frR_cel (c := 6) (by decide) (by decide) (by omega) (by omega) (by omega) (by omega) (by omega) (by omega) (by omega) (by decide) (by omega) k2
    rw [t6] at x1 x2 x3
    have eR : qR (N : Int) (D : Int) = qR (n : Int) (d : Int) := qR_scale hd hg (by rw [eN]; exact Int.natCast_mul _ _) (by rw [eD]; exact Int.natCast_mul _ _)
    have eL : qR (7 * (N : Int) + D) (7 * (D : Int)) = qR ((7 * n + d : Nat) : Int) ((7 * d : Nat) : Int) := by
      refine qR_scale (g := g) (by omega) hg ?_ ?_
      · have : 7 * N + D = (7 * n + d) * g := by rw [Nat.add_mul, eN, eD, Nat.mul_assoc]
        exact_mod_cast this
      · have : 7 * D = 7 * d * g := by rw [eD, Nat.mul_assoc]
        exact_mod_cast this
    refine ⟨1000000 - (C fr : Int) - 1, 1000000 - (C fr : Int) - 1 + 1, 1000000 - (C (fr + 1) : Int) - 1, 1000000 - (C (fr + 1) : Int) - 1 + 1, 1000000 - (C' fr : Int) - 1, 1000000 - (C' fr : Int) - 1 + 1, by omega, by omega, by omega, by omega, by omega, by omega, by omega, by omega, by omega, fun W ht => ?_, fun W ht => ?_, fun W ht => ?_⟩
    · rw [eR]; exact chi_cel (by omega) (by omega) hn (by omega) hd (by omega) (by omega) (by decide) x1 W ht
    · rw [eR]; exact chi_cel (by omega) (by omega) hn (by omega) hd (by omega) (by omega) (by decide) x2 W ht
    · rw [eL]; exact chi_cel (by omega) (by omega) (by omega) (by omega) (by omega) (by omega) (by omega) (by decide) x3 W ht
theorem specialTail_law {x0 x1 z0 z1 y0 : Int} {w : World} (hx0 : In64 x0) (hx1 : In64 x1) (hz0 : In64 z0) (hz1 : In64 z1) (hy0 : In64 y0) (ht : Tb w) :
    Calls Tryz.prog 4 #[.agg #[.int .i64 x0, .int .i64 x1], .agg #[.int .i64 z0, .int .i64 z1], .int .i64 y0] w (Ret w fun v _ => v = .bool true) := by
  have bd := pick_bd x1 50 (by decide)
  have bf := pick_bd y0 19 (by decide)
  have be' := pick_bd z1 50 (by decide)
  obtain ⟨D, hD⟩ : ∃ D : Nat, 1 + pickI x1 50 = (D : Int) := ⟨(1 + pickI x1 50).toNat, by omega⟩
  have bn := pick_bd x0 (36 * (D : Int) + 1) (by omega)
  obtain ⟨N, hN⟩ : ∃ N : Nat, pickI x0 (36 * (D : Int) + 1) = (N : Int) := ⟨(pickI x0 (36 * (D : Int) + 1)).toNat, by omega⟩
  obtain ⟨E, hE⟩ : ∃ E : Nat, 1 + pickI z1 50 = (E : Int) := ⟨(1 + pickI z1 50).toNat, by omega⟩
  have bm := pick_bd z0 (6 * (E : Int) + 1) (by omega)
  obtain ⟨M, hM⟩ : ∃ M : Nat, pickI z0 (6 * (E : Int) + 1) = (M : Int) := ⟨(pickI z0 (6 * (E : Int) + 1)).toNat, by omega⟩
  obtain ⟨fr, hfr⟩ : ∃ fr : Nat, 1 + pickI y0 19 = (fr : Int) := ⟨(1 + pickI y0 19).toNat, by omega⟩
  have qND : Q9 (N : Int) (D : Int) := ⟨by omega, by omega, by omega⟩
  have qME : Q9 (M : Int) (E : Int) := ⟨by omega, by omega, by omega⟩
  obtain ⟨f, c, a1, a2, a3, hCa, hEx⟩ := partA (N := N) (D := D) (by omega) (by omega) (by omega)
  obtain ⟨p, q, g, k, b1, b2, b3, b4, b5, b6, b7, b8, hCb, hNm⟩ := partB (M := M) (E := E) (by omega) (by omega) (by omega)
  obtain ⟨f1, c1, f2, c2, f3, c3, d1, d2, d3, d4, d5, d6, d7, d8, d9, hC1, hC2, hC3⟩ := partC (N := N) (D := D) (fr := fr) (by omega) (by omega) (by omega) (by omega) (by omega)
  have qq : ∀ x : Int, -1000000000 ≤ x → x ≤ 1000000000 → ∀ pl, pl = 6 ∨ pl = 8 → Q9 x (tenI pl) := by
    intro x h1 h2 pl hpl
    rcases hpl with e | e
    · subst e; rw [t6]; exact ⟨by omega, by decide, by decide⟩
    · subst e; rw [t8]; exact ⟨by omega, by decide, by decide⟩
  have qg := qq g (by omega) (by omega) 8 (Or.inr rfl)
  have qk := qq k (by omega) (by omega) 8 (Or.inr rfl)
  have qp := qq p (by omega) (by omega) 8 (Or.inr rfl)
  have qqq := qq q (by omega) (by omega) 8 (Or.inr rfl)
  have T6 := t6
  have m6 : (0 : Int) ≤ tenI 6 := by rw [t6]; decide
  have q2g : Q9 (g * tenI 8 + g * tenI 8) (tenI 8 * tenI 8) := by rw [t8]; exact ⟨by omega, by decide, by decide⟩
  have q2k : Q9 (k * tenI 8 + k * tenI 8) (tenI 8 * tenI 8) := by rw [t8]; exact ⟨by omega, by decide, by decide⟩
  have iv8 : IvR (qR g (tenI 8), qR k (tenI 8)) := ⟨_, _, _, _, rfl, rfl, qg, qk, Int.mul_le_mul_of_nonneg_right b6 (by rw [t8]; decide)⟩
  have ivp : IvR (qR p (tenI 8), qR q (tenI 8)) := ⟨_, _, _, _, rfl, rfl, qp, qqq, Int.mul_le_mul_of_nonneg_right b3 (by rw [t8]; decide)⟩
  have ivd : IvR (qR (g * tenI 8 + g * tenI 8) (tenI 8 * tenI 8), qR (k * tenI 8 + k * tenI 8) (tenI 8 * tenI 8)) := ⟨_, _, _, _, rfl, rfl, q2g, q2k, by rw [t8]; omega⟩
  have q21 : Q9 2 1 := q9l2
  have iv2 : IvR (qR 2 1, qR 2 1) := ⟨_, _, _, _, rfl, rfl, q21, q21, by decide⟩
  have qe1 : Q9 (2 * (tenI 8 * tenI 8) - (k * tenI 8 + k * tenI 8) * 1) (1 * (tenI 8 * tenI 8)) := by rw [t8]; exact ⟨by omega, by decide, by decide⟩
  have qe2 : Q9 (2 * (tenI 8 * tenI 8) - (g * tenI 8 + g * tenI 8) * 1) (1 * (tenI 8 * tenI 8)) := by rw [t8]; exact ⟨by omega, by decide, by decide⟩
  have ive : IvR (qR (2 * (tenI 8 * tenI 8) - (k * tenI 8 + k * tenI 8) * 1) (1 * (tenI 8 * tenI 8)), qR (2 * (tenI 8 * tenI 8) - (g * tenI 8 + g * tenI 8) * 1) (1 * (tenI 8 * tenI 8))) := ⟨_, _, _, _, rfl, rfl, qe1, qe2, by rw [t8]; omega⟩
  have hle : ∀ x y : Int, x ≤ y → cmpI (x * tenI 6) (y * tenI 6) ≤ 0 := fun x y h => cmpI_nonpos.2 (Int.mul_le_mul_of_nonneg_right h m6)
  have qf1 := qq f1 (by omega) (by omega) 6 (Or.inl rfl)
  have qc1 := qq c1 (by omega) (by omega) 6 (Or.inl rfl)
  have qf2 := qq f2 (by omega) (by omega) 6 (Or.inl rfl)
  have qc2 := qq c2 (by omega) (by omega) 6 (Or.inl rfl)
  have qf3 := qq f3 (by omega) (by omega) 6 (Or.inl rfl)
  have qc3 := qq c3 (by omega) (by omega) 6 (Or.inl rfl)
  refine tail_walk (vad := g * tenI 8 + g * tenI 8) (vbd := tenI 8 * tenI 8) (wad := k * tenI 8 + k * tenI 8) (wbd := tenI 8 * tenI 8) (vae := 2 * (tenI 8 * tenI 8) - (k * tenI 8 + k * tenI 8) * 1) (vbe := 1 * (tenI 8 * tenI 8)) (wae := 2 * (tenI 8 * tenI 8) - (g * tenI 8 + g * tenI 8) * 1) (wbe := 1 * (tenI 8 * tenI 8)) (N := (N : Int)) (D := (D : Int)) (M := (M : Int)) (E := (E : Int)) hx0 hx1 hz0 hz1 hy0 hD hN hE hM hfr qf1 qc1 qf2 qc2 qf3 qc3 (hle _ _ d5) (hle _ _ d6) (hle _ _ d3) (hle _ _ d4) (fun W hW => sane6_ok hW) ?_ hCa hEx ?_ hCb hNm ?_ ?_ ?_ ?_ hC1 hC2 ?_ hC3 ht
  · intro W hW
    exact cEq (rDiv_ok _ _ _ _ _ hW) (congrArg resR (divR_m2 qND))
  · intro W hW
    exact qMulX qME qME hW
  · intro W hW
    exact encAdd_ok (x := (qR g (tenI 8), qR k (tenI 8))) (y := (qR g (tenI 8), qR k (tenI 8))) iv8 iv8 rfl rfl qg qk rfl rfl qg qk hW
  · intro W hW
    exact point_ok rfl q21 hW
  · intro W hW
    exact encSub_ok (x := (qR 2 1, qR 2 1)) (y := (qR (g * tenI 8 + g * tenI 8) (tenI 8 * tenI 8), qR (k * tenI 8 + k * tenI 8) (tenI 8 * tenI 8))) iv2 ivd rfl rfl q21 q21 rfl rfl q2g q2k hW
  · intro W hW
    refine meets6_ok (fun W' hW' => encMeet_ok (x := (qR p (tenI 8), qR q (tenI 8))) (y := (qR (2 * (tenI 8 * tenI 8) - (k * tenI 8 + k * tenI 8) * 1) (1 * (tenI 8 * tenI 8)), qR (2 * (tenI 8 * tenI 8) - (g * tenI 8 + g * tenI 8) * 1) (1 * (tenI 8 * tenI 8)))) ivp ive rfl rfl qp qqq rfl rfl qe1 qe2 (meet_iv qp qqq qe1 qe2 ?_ ?_ b3 ?_) hW') hW
    · rw [t8]; omega
    · rw [t8]; omega
    · rw [t8]; omega
  · intro W hW
    have e : Qv ((N : Int) * 7 + 1 * (D : Int)) ((D : Int) * 7) = Qv (7 * (N : Int) + D) (7 * (D : Int)) := Qv_congr (by omega) (by omega) (by rw [show (N : Int) * 7 + 1 * (D : Int) = 7 * N + D by omega, Int.mul_comm (D : Int) 7])
    exact cEq (qAddL rfl rfl qND ⟨by decide, by decide, by decide⟩ hW) e
end Go.Proofs.YtjijfnggomhpiaaGreatDoor
