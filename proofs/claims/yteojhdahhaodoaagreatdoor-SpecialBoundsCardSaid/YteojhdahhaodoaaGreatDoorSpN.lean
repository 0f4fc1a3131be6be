/- Part of the proof of a statement about the special functions. -/
import Derived.Test.YteojhdahhaodoaaGreatDoorLaw3
import Derived.Test.YteojhdahhaodoaaGreatDoorTbE
import Derived.Test.YteojhdahhaodoaaGreatDoorTbL
set_option linter.all false
namespace Go.Proofs.YteojhdahhaodoaaGreatDoor
open Go Go.Eng Go.RowKit
theorem s25 : (10 : Nat) ^ (10 + 15) = S25 := by decide
theorem red_bd {N D k : Int} (hD : 0 < D) (h1 : -(k * D) ≤ N) (h2 : N ≤ k * D) : -(k * redD N D) ≤ redN N D ∧ redN N D ≤ k * redD N D := by
  have hn := rq_n (n := N) hD
  have hd := rq_d (n := N) hD
  have hg := gcd_pos (n := N) hD
  generalize redN N D = a at *
  generalize redD N D = b at *
  generalize ((Int.gcd N D : Nat) : Int) = g at *
  subst hn hd
  constructor
  · refine Int.le_of_mul_le_mul_right ?_ hg
    rw [Int.neg_mul, Int.mul_assoc]; exact h1
  · refine Int.le_of_mul_le_mul_right ?_ hg
    rw [Int.mul_assoc]; exact h2
theorem exp10 {N D : Int} (h1 : 1 ≤ D) (h50 : D ≤ 50) (hlo : -(19 * D) ≤ N) (hhi : N ≤ 19 * D) : ∃ f c, ExpC N D 10 f c ∧ f.natAbs < 10 ^ 70 ∧ c.natAbs < 10 ^ 70 ∧ (N + D) * tenI 10 ≤ c * D ∧ 0 ≤ f := by
  have hD : 0 < D := by omega
  by_cases h0 : N = 0
  · refine ⟨tenI 10, tenI 10, fun w ht => exp_z hD (by omega) h0 (by decide) ht, by decide, by decide, ?_, by decide⟩
    subst h0; rw [Int.zero_add, Int.mul_comm]; exact Int.le_refl _
  · obtain ⟨ba, bb⟩ := red_bd hD hlo hhi
    have hn := rq_n (n := N) hD
    have hd := rq_d (n := N) hD
    have hg := gcd_pos (n := N) hD
    have hb := rq_pos (n := N) hD
    have hb50 := rq_le (n := N) hD
    have hgc := rq_gcd (n := N) hD
    have ha0 : redN N D ≠ 0 := fun e => h0 (by rw [← hn, e, Int.zero_mul])
    have hX : ExR (redN N D) (redD N D).toNat := by
      have hg' : Nat.gcd (redN N D).natAbs (redD N D).toNat = 1 := by
        have : (redD N D).toNat = (redD N D).natAbs := by omega
        rw [this]; exact hgc
      have hT := exT (N := (redN N D).natAbs) (d := (redD N D).toNat) (by omega) (by omega) (by omega) (by omega) hg'
      by_cases hs : 0 ≤ redN N D
      · have := hT.1; rwa [show (((redN N D).natAbs : Nat) : Int) = redN N D by omega] at this
      · have := hT.2; rwa [show -(((redN N D).natAbs : Nat) : Int) = redN N D by omega] at this
    obtain ⟨r, f, c, hr, hC, hle, hf⟩ := hX
    refine ⟨f, c, fun w ht => exp_q (by omega) hD (by omega) h0 (by omega) (by omega) (by decide) (FindR.one (r := zP r) ?_ hC) ht, hC.f9, hC.c9, ?_, hf⟩
    · unfold expBd; rw [s25, hr]; rfl
    · have e : (((redD N D).toNat : Nat) : Int) = redD N D := by omega
      rw [e] at hle
      generalize redN N D = a at *
      generalize redD N D = b at *
      generalize ((Int.gcd N D : Nat) : Int) = g at *
      have h2 := Int.mul_le_mul_of_nonneg_right hle (Int.le_of_lt hg)
      rw [← hn, ← hd, show tenI 10 = 10000000000 by decide]
      rw [show (a * g + b * g) * 10000000000 = (a + b) * 10000000000 * g by grind, show c * (b * g) = c * b * g by grind]
      exact h2
theorem log10 {M E : Int} (h1 : 1 ≤ M) (h999 : M ≤ 999) (h2 : 1 ≤ E) (h50 : E ≤ 50) : ∃ f c, LogC M E 10 f c ∧ f.natAbs < 10 ^ 70 ∧ f * E ≤ (M - E) * tenI 10 := by
  obtain ⟨m, rfl⟩ : ∃ m : Nat, M = m := ⟨M.toNat, by omega⟩
  obtain ⟨e, rfl⟩ : ∃ e : Nat, E = e := ⟨E.toNat, by omega⟩
  by_cases he : m = e
  · subst he
    exact ⟨0, 0, fun w ht => log_one (by omega) (by omega) rfl (by decide) ht, by decide, by rw [Int.zero_mul, Int.sub_self, Int.zero_mul]; exact Int.le_refl _⟩
  · have hg : 0 < Nat.gcd m e := Nat.gcd_pos_of_pos_left _ (by omega)
    obtain ⟨a, ha⟩ : Nat.gcd m e ∣ m := Nat.gcd_dvd_left _ _
    obtain ⟨b, hb⟩ : Nat.gcd m e ∣ e := Nat.gcd_dvd_right _ _
    have hco : Nat.gcd a b = 1 := by
      have h3 := Nat.gcd_mul_left (Nat.gcd m e) a b
      rw [← ha, ← hb] at h3
      exact Nat.eq_of_mul_eq_mul_left hg (by rw [Nat.mul_one]; exact h3.symm)
    generalize Nat.gcd m e = g at *
    subst ha hb
    have ha0 : 0 < a := Nat.pos_of_mul_pos_left (by omega : 0 < g * a) |> fun h => by
      rcases Nat.eq_zero_or_pos a with h | h
      · subst h; omega
      · exact h
    have hb0 : 0 < b := by
      rcases Nat.eq_zero_or_pos b with h | h
      · subst h; omega
      · exact h
    have la : a ≤ g * a := Nat.le_mul_of_pos_left _ hg
    have lb : b ≤ g * b := Nat.le_mul_of_pos_left _ hg
    have hne : a ≠ b := fun h => he (by rw [h])
    have hX : LgR a b := by
      by_cases hl : b < a
      · exact (lgT hb0 (by omega) hl (by omega) hco).1
      · exact (lgT ha0 (by omega) (by omega) (by omega) (by rw [Nat.gcd_comm]; exact hco)).2
    obtain ⟨r, f, c, hr, hC, hle⟩ := hX
    have hq : qR ((g * a : Nat) : Int) ((g * b : Nat) : Int) = qR (a : Int) (b : Int) := qR_congr (by omega) (by omega) (by push_cast; grind)
    refine ⟨f, c, fun w ht => ?_, hC.f9, ?_⟩
    · rw [hq]
      exact log_q ha0 (by omega) hb0 (by omega) hne (by decide) (FindR.one (r := r) (by unfold logBd; rw [s25]; exact hr) hC) ht
    · rw [show tenI 10 = 10000000000 by decide]
      have h3 := Int.mul_le_mul_of_nonneg_left hle (show (0 : Int) ≤ g by omega)
      push_cast
      rw [show f * ((g : Int) * b) = g * (f * b) by grind, show ((g : Int) * a - g * b) * 10000000000 = g * ((a - b) * 10000000000) by grind]
      exact h3
theorem specialBounds_law {x0 x1 y0 y1 : Int} {w : World} (hx0 : In64 x0) (hx1 : In64 x1) (hy0 : In64 y0) (hy1 : In64 y1) (ht : Tb w) :
    Calls Tryz.prog 3 #[.agg #[.int .i64 x0, .int .i64 x1], .agg #[.int .i64 y0, .int .i64 y1]] w (Ret w fun v _ => v = .bool true) := by
  have bd := pick_bd x1 50 (by decide)
  have bn := pick_bd x0 (2 * (19 * (1 + pickI x1 50)) + 1) (by omega)
  have bm := pick_bd y0 999 (by decide)
  have be2 := pick_bd y1 50 (by decide)
  obtain ⟨f, c, h1, h2, h3, h4, h5⟩ := exp10 (N := pickI x0 (2 * (19 * (1 + pickI x1 50)) + 1) - 19 * (1 + pickI x1 50)) (D := 1 + pickI x1 50) (by omega) (by omega) (by omega) (by omega)
  obtain ⟨g, k, g1, g2, g3⟩ := log10 (M := 1 + pickI y0 999) (E := 1 + pickI y1 50) (by omega) (by omega) (by omega) (by omega)
  exact bounds_law hx0 hx1 hy0 hy1 rfl rfl rfl rfl h1 g1 h2 h3 g2 h4 g3 h5 ht
end Go.Proofs.YteojhdahhaodoaaGreatDoor
