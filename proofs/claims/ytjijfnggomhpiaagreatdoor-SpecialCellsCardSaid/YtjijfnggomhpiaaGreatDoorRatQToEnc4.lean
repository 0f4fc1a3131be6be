/- Part of the proof of a statement about the special functions. -/
import Derived.Test.YtjijfnggomhpiaaGreatDoorSp4ToRat5
import Derived.Test.YtjijfnggomhpiaaGreatDoorEngGToInt1
import Derived.Test.YtjijfnggomhpiaaGreatDoorInt11ToRat1
set_option linter.all false
namespace Go.Proofs.YtjijfnggomhpiaaGreatDoor
open Go Go.Eng Go.RowKit
section
variable {n d : Int}
theorem gcd_pos (hd : 0 < d) : 0 < ((Int.gcd n d : Nat) : Int) := by have := Int.gcd_pos_of_ne_zero_right n (show d ≠ 0 by omega); omega
theorem rq_n (hd : 0 < d) : redN n d * ((Int.gcd n d : Nat) : Int) = n := by
  unfold redN; rw [if_neg (by omega)]; exact Int.ediv_mul_cancel (Int.gcd_dvd_left ..)
theorem rq_d (hd : 0 < d) : redD n d * ((Int.gcd n d : Nat) : Int) = d := by
  unfold redD; rw [if_neg (by omega)]; exact Int.ediv_mul_cancel (Int.gcd_dvd_right ..)
theorem rq_cross (hd : 0 < d) : redN n d * d = n * redD n d := by
  have h1 := rq_n (n := n) hd
  have h2 := rq_d (n := n) hd
  generalize redN n d = a at *
  generalize redD n d = b at *
  generalize ((Int.gcd n d : Nat) : Int) = g at *
  rw [← h1, ← h2, Int.mul_comm b g, Int.mul_assoc]
theorem rq_pos (hd : 0 < d) : 0 < redD n d := by
  have h2 := rq_d (n := n) hd
  have hg := gcd_pos (n := n) hd
  rcases Int.lt_or_le 0 (redD n d) with h | h
  · exact h
  · have := Int.mul_nonpos_of_nonpos_of_nonneg h (Int.le_of_lt hg); omega
theorem rq_le (hd : 0 < d) : redD n d ≤ d := by
  have h2 := rq_d (n := n) hd
  have hg := gcd_pos (n := n) hd
  have hp := rq_pos (n := n) hd
  have := Int.mul_le_mul_of_nonneg_left (show (1 : Int) ≤ ((Int.gcd n d : Nat) : Int) by omega) (Int.le_of_lt hp)
  omega
theorem rq_abs (hd : 0 < d) : (redN n d).natAbs ≤ n.natAbs := by
  have h2 := congrArg Int.natAbs (rq_n (n := n) hd)
  have hg := gcd_pos (n := n) hd
  rw [Int.natAbs_mul, Int.natAbs_natCast] at h2
  exact Nat.le_trans (Nat.le_mul_of_pos_right _ (by omega)) (Nat.le_of_eq h2)
theorem rq_gcd (hd : 0 < d) : Int.gcd (redN n d) (redD n d) = 1 := by
  have hg := gcd_pos (n := n) hd
  have e := Int.gcd_mul_right (redN n d) ((Int.gcd n d : Nat) : Int) (redD n d)
  rw [rq_n hd, rq_d hd, Int.natAbs_natCast] at e
  exact Nat.eq_of_mul_eq_mul_right (show 0 < Int.gcd n d by omega) (by omega)
theorem okR_z {a b : Int} (ha : Fz a) (hb : Fz b) (h0 : 0 < b) (hg : Int.gcd a b = 1) : okR (showI a, showI b) = true := by
  have e : gcdI (showI a) (showI b) = some [49] := by
    unfold gcdI; rw [if_pos (by rw [ha.int, hb.int]; rfl), valZ_showI, valZ_showI, hg]
    decide +kernel
  unfold okR
  simp only [ha.int, hb.int, e]
  rw [cmpS_zero hb.int, valZ_showI, decide_eq_false (by rw [cmpI_nonpos]; omega)]
  rfl
theorem fz_rn (hd : 0 < d) (h : Fz n) : Fz (redN n d) := Nat.lt_of_le_of_lt (rq_abs hd) h
theorem fz_rd (hd : 0 < d) (h : Fz d) : Fz (redD n d) := by have := rq_pos (n := n) hd; have := rq_le (n := n) hd; unfold Fz at *; omega
theorem okR_q (hd : 0 < d) (fn : Fz n) (fd : Fz d) : okR (qR n d) = true := okR_z (fz_rn hd fn) (fz_rd hd fd) (rq_pos hd) (rq_gcd hd)
end
theorem qR_cop {n d : Int} (hd : 0 < d) (hg : Int.gcd n d = 1) : qR n d = (showI n, showI d) := by
  unfold qR redN redD; rw [hg, if_neg (by omega), if_neg (by omega)]; simp
theorem dvd_gcd1 {a b c : Int} (h : a ∣ b * c) (hg : Int.gcd a c = 1) : a ∣ b := by
  have h1 : a.natAbs ∣ b.natAbs * c.natAbs := by rw [← Int.natAbs_mul]; exact Int.natAbs_dvd_natAbs.2 h
  exact Int.natAbs_dvd_natAbs.1 (Nat.Coprime.dvd_of_dvd_mul_right (show Nat.Coprime a.natAbs c.natAbs from hg) h1)
theorem red_uniq {a b c d : Int} (hb : 0 < b) (hd : 0 < d) (h1 : Int.gcd a b = 1) (h2 : Int.gcd c d = 1) (h : a * d = c * b) : a = c ∧ b = d := by
  have e1 : b ∣ d := by
    have : b ∣ d * a := ⟨c, by rw [Int.mul_comm d a, h, Int.mul_comm]⟩
    exact dvd_gcd1 this (by rw [Int.gcd_comm]; exact h1)
  have e2 : d ∣ b := by
    have : d ∣ b * c := ⟨a, by rw [Int.mul_comm b c, ← h, Int.mul_comm]⟩
    exact dvd_gcd1 this (by rw [Int.gcd_comm]; exact h2)
  have e := Int.dvd_antisymm (by omega) (by omega) e1 e2
  subst e
  exact ⟨Int.eq_of_mul_eq_mul_right (by omega) h, rfl⟩
theorem red_congr {a b c d : Int} (hb : 0 < b) (hd : 0 < d) (h : a * d = c * b) : redN a b = redN c d ∧ redD a b = redD c d := by
  have h1 := rq_cross (n := a) hb
  have h2 := rq_cross (n := c) hd
  refine red_uniq (rq_pos hb) (rq_pos hd) (rq_gcd hb) (rq_gcd hd) ?_
  have e : redN a b * redD c d * (b * d) = redN c d * redD a b * (b * d) := by
    calc redN a b * redD c d * (b * d) = (redN a b * b) * (redD c d * d) := by grind
      _ = (a * redD a b) * (redD c d * d) := by rw [h1]
      _ = (a * d) * (redD a b * redD c d) := by grind
      _ = (c * b) * (redD a b * redD c d) := by rw [h]
      _ = (c * redD c d) * (redD a b * b) := by grind
      _ = (redN c d * d) * (redD a b * b) := by rw [h2]
      _ = redN c d * redD a b * (b * d) := by grind
  exact Int.eq_of_mul_eq_mul_right (Int.ne_of_gt (Int.mul_pos hb hd)) e
theorem qR_congr {a b c d : Int} (hb : 0 < b) (hd : 0 < d) (h : a * d = c * b) : qR a b = qR c d := by
  obtain ⟨h1, h2⟩ := red_congr hb hd h
  unfold qR; rw [h1, h2]
theorem qR_inj {a b c d : Int} (hb : 0 < b) (hd : 0 < d) (h : qR a b = qR c d) : a * d = c * b := by
  unfold qR at h
  have e1 := showI_inj (congrArg Prod.fst h)
  have e2 := showI_inj (congrArg Prod.snd h)
  have h1 := rq_n (n := a) hb
  have h2 := rq_d (n := a) hb
  have h3 := rq_n (n := c) hd
  have h4 := rq_d (n := c) hd
  rw [← e1] at h3
  rw [← e2] at h4
  generalize redN a b = p at *
  generalize redD a b = q at *
  rw [← h1, ← h2, ← h3, ← h4]; grind
theorem sgn_mul_cmp {x y k : Int} (hk : 0 < k) : cmpI (x * k) (y * k) = cmpI x y := cmpI_iff ⟨fun h => Int.lt_of_mul_lt_mul_right h (Int.le_of_lt hk), fun h => Int.mul_lt_mul_of_pos_right h hk⟩ ⟨fun h => Int.eq_of_mul_eq_mul_right (by omega) h, fun h => by rw [h]⟩
theorem cmp_red {a b c d : Int} (hb : 0 < b) (hd : 0 < d) : cmpI (redN a b * redD c d) (redN c d * redD a b) = cmpI (a * d) (c * b) := by
  rw [← sgn_mul_cmp (Int.mul_pos (gcd_pos (n := a) hb) (gcd_pos (n := c) hd))]
  have h1 := rq_n (n := a) hb
  have h2 := rq_d (n := a) hb
  have h3 := rq_n (n := c) hd
  have h4 := rq_d (n := c) hd
  generalize redN a b = p at *
  generalize redD a b = q at *
  generalize redN c d = r at *
  generalize redD c d = s at *
  generalize ((Int.gcd a b : Nat) : Int) = g at *
  generalize ((Int.gcd c d : Nat) : Int) = k at *
  rw [← h1, ← h2, ← h3, ← h4, show p * s * (g * k) = p * g * (s * k) by grind, show r * q * (g * k) = r * k * (q * g) by grind]
theorem rCmpQ_ok {a b c d : Int} {w : World} (hb : 0 < b) (hd : 0 < d) (fa : Fz a) (fb : Fz b) (fc : Fz c) (fd : Fz d) (ht : Tb w) :
    Calls Tryz.prog 10 #[.agg #[S (qR a b).1, S (qR a b).2], .agg #[S (qR c d).1, S (qR c d).2]] w (Ret w fun v _ => v = .int .i64 (cmpI (a * d) (c * b))) :=
  cEq (rCmpZ_ok (okR_q hb fa fb) (okR_q hd fc fd) (fz_rn hb fa) (fz_rd hb fb) (fz_rn hd fc) (fz_rd hd fd) ht) (congrArg (Value.int .i64) (cmp_red hb hd))
theorem qR_val {a b : Int} : valZ (qR a b).1 = redN a b ∧ valZ (qR a b).2 = redD a b := ⟨valZ_showI _, valZ_showI _⟩
def Q9 (a b : Int) : Prop := a.natAbs < 10 ^ 90 ∧ 0 < b ∧ b < 10 ^ 90
theorem Q9.fz {a b : Int} (h : Q9 a b) : Fz a ∧ Fz b := by obtain ⟨h1, h2, h3⟩ := h; unfold Fz; omega
theorem Q9.red {a b : Int} (h : Q9 a b) : Q9 (redN a b) (redD a b) := ⟨Nat.lt_of_le_of_lt (rq_abs h.2.1) h.1, rq_pos h.2.1, by have := rq_le (n := a) h.2.1; have := h.2.2; omega⟩
theorem Q9.ok {a b : Int} (h : Q9 a b) : okR (qR a b) = true := okR_q h.2.1 h.fz.1 h.fz.2
theorem abs_mul {a b : Int} (ha : a.natAbs < 10 ^ 90) (hb : b.natAbs < 10 ^ 90) : (a * b).natAbs < 10 ^ 180 := by rw [Int.natAbs_mul]; exact mul_lt_pow ha hb
theorem fz_180 {a : Int} (h : a.natAbs < 10 ^ 180) : Fz a := by unfold Fz; omega
theorem both_q {n d c e : Int} (fn : Fz n) (fd : Fz d) (h : makeR n d = some (qR c e)) : bothF n d = some (qR c e) := by
  unfold bothF; rw [fn.fits, fd.fits]; exact h
theorem addR_q {a b c d : Int} (h1 : Q9 a b) (h2 : Q9 c d) : addR (qR a b) (qR c d) = some (qR (a * d + c * b) (b * d)) := by
  unfold addR
  rw [h1.ok, h2.ok, qR_val.1, qR_val.2, qR_val.1, qR_val.2]
  have r1 := h1.red
  have r2 := h2.red
  have m1 := abs_mul r1.1 (b := redD c d) (by have := r2.2; omega)
  have m2 := abs_mul r2.1 (b := redD a b) (by have := r1.2; omega)
  have m3 := abs_mul (a := redD a b) (b := redD c d) (by have := r1.2; omega) (by have := r2.2; omega)
  rw [(fz_180 m1).fits, (fz_180 m2).fits]
  have hp := Int.mul_pos r1.2.1 r2.2.1
  simp only [Bool.and_self, if_true]
  refine both_q (by unfold Fz; omega) (fz_180 m3) ?_
  rw [makeR_q (by omega)]
  congr 1
  refine qR_congr hp (Int.mul_pos h1.2.1 h2.2.1) ?_
  have e1 := rq_cross (n := a) h1.2.1
  have e2 := rq_cross (n := c) h2.2.1
  generalize redN a b = p at *
  generalize redD a b = q at *
  generalize redN c d = r at *
  generalize redD c d = s at *
  grind
theorem subR_q {a b c d : Int} (h1 : Q9 a b) (h2 : Q9 c d) : subR (qR a b) (qR c d) = some (qR (a * d - c * b) (b * d)) := by
  unfold subR
  rw [h1.ok, h2.ok, qR_val.1, qR_val.2, qR_val.1, qR_val.2]
  have r1 := h1.red
  have r2 := h2.red
  have m1 := abs_mul r1.1 (b := redD c d) (by have := r2.2; omega)
  have m2 := abs_mul r2.1 (b := redD a b) (by have := r1.2; omega)
  have m3 := abs_mul (a := redD a b) (b := redD c d) (by have := r1.2; omega) (by have := r2.2; omega)
  rw [(fz_180 m1).fits, (fz_180 m2).fits]
  have hp := Int.mul_pos r1.2.1 r2.2.1
  simp only [Bool.and_self, if_true]
  refine both_q (by unfold Fz; omega) (fz_180 m3) ?_
  rw [makeR_q (by omega)]
  congr 1
  refine qR_congr hp (Int.mul_pos h1.2.1 h2.2.1) ?_
  have e1 := rq_cross (n := a) h1.2.1
  have e2 := rq_cross (n := c) h2.2.1
  generalize redN a b = p at *
  generalize redD a b = q at *
  generalize redN c d = r at *
  generalize redD c d = s at *
  grind
theorem divR_q {a b c d : Int} (h1 : Q9 a b) (h2 : Q9 c d) (hc : 0 < c) : divR (qR a b) (qR c d) = some (qR (a * d) (b * c)) := by
  unfold divR
  rw [h1.ok, h2.ok, qR_val.1, qR_val.2, qR_val.1, qR_val.2]
  have r1 := h1.red
  have r2 := h2.red
  have m1 := abs_mul r1.1 (b := redD c d) (by have := r2.2; omega)
  have m3 := abs_mul (a := redD a b) (b := redN c d) (by have := r1.2; omega) r2.1
  have hrc : 0 < redN c d := by
    have h := rq_n (n := c) h2.2.1
    have hg := gcd_pos (n := c) h2.2.1
    rcases Int.lt_or_le 0 (redN c d) with h' | h'
    · exact h'
    · have := Int.mul_nonpos_of_nonpos_of_nonneg h' (Int.le_of_lt hg); omega
  have hp := Int.mul_pos r1.2.1 hrc
  simp only [Bool.and_self, if_true]
  refine both_q (fz_180 m1) (fz_180 m3) ?_
  rw [makeR_q (by omega)]
  congr 1
  refine qR_congr hp (Int.mul_pos h1.2.1 hc) ?_
  have e1 := rq_cross (n := a) h1.2.1
  have e2 := rq_cross (n := c) h2.2.1
  generalize redN a b = p at *
  generalize redD a b = q at *
  generalize redN c d = r at *
  generalize redD c d = s at *
  grind
section
variable {a b c d : Int} {w : World}
theorem qAdd_ok (h1 : Q9 a b) (h2 : Q9 c d) (ht : Tb w) : Calls Tryz.prog 23 #[.agg #[S (qR a b).1, S (qR a b).2], .agg #[S (qR c d).1, S (qR c d).2]] w (Ret w fun v _ => v = Qv (a * d + c * b) (b * d)) := cEq (rAdd_ok _ _ _ _ _ ht) (congrArg resR (addR_q h1 h2))
theorem qSub_ok (h1 : Q9 a b) (h2 : Q9 c d) (ht : Tb w) : Calls Tryz.prog 56 #[.agg #[S (qR a b).1, S (qR a b).2], .agg #[S (qR c d).1, S (qR c d).2]] w (Ret w fun v _ => v = Qv (a * d - c * b) (b * d)) := cEq (rSub_ok _ _ _ _ _ ht) (congrArg resR (subR_q h1 h2))
theorem qDiv_ok (h1 : Q9 a b) (h2 : Q9 c d) (hc : 0 < c) (ht : Tb w) : Calls Tryz.prog 14 #[.agg #[S (qR a b).1, S (qR a b).2], .agg #[S (qR c d).1, S (qR c d).2]] w (Ret w fun v _ => v = Qv (a * d) (b * c)) := cEq (rDiv_ok _ _ _ _ _ ht) (congrArg resR (divR_q h1 h2 hc))
end
theorem upn_mul {a b k : Nat} (hk : 0 < k) : upn (a * k) (b * k) = upn a b := by
  unfold upn
  rw [Nat.mul_mod_mul_right, Nat.mul_div_mul_right _ _ hk]
  have : (a % b * k = 0) ↔ (a % b = 0) := ⟨fun h => (Nat.mul_eq_zero.1 h).resolve_right (by omega), fun h => by rw [h, Nat.zero_mul]⟩
  simp only [this]
theorem ofP_mul {S n d k : Nat} (hk : 0 < k) : ofP S (n * k) (d * k) = ofP S n d := by
  unfold ofP
  rw [show n * k * S = n * S * k by rw [Nat.mul_assoc, Nat.mul_comm k, ← Nat.mul_assoc], upn_mul hk, Nat.mul_div_mul_right _ _ hk]
end Go.Proofs.YtjijfnggomhpiaaGreatDoor
namespace Go.Proofs.YtjijfnggomhpiaaGreatDoor
open Go Go.Eng Go.RowKit
attribute [local irreducible] wpListIn Code.wpIn Oper.wpIn Exit.then Exit.inBlock Exit.noGoto
set_option maxHeartbeats 40000000
theorem q21 : (([50], [49]) : R) = qR 2 1 := by decide +kernel
theorem q11 : (([49], [49]) : R) = qR 1 1 := by decide +kernel
theorem q01 : (([48], [49]) : R) = qR 0 1 := by decide +kernel
theorem q12 : (([49], [50]) : R) = qR 1 2 := by decide +kernel
section
variable {a b c d : Int} {l m l' m' : List UInt8} {w : World}
theorem qCmpL (e1 : (l, m) = qR a b) (e2 : (l', m') = qR c d) (h1 : Q9 a b) (h2 : Q9 c d) (ht : Tb w) : Calls Tryz.prog 10 #[.agg #[S l, S m], .agg #[S l', S m']] w (Ret w fun v _ => v = .int .i64 (cmpI (a * d) (c * b))) := by
  rw [show l = (qR a b).1 from congrArg Prod.fst e1, show m = (qR a b).2 from congrArg Prod.snd e1, show l' = (qR c d).1 from congrArg Prod.fst e2, show m' = (qR c d).2 from congrArg Prod.snd e2]
  exact rCmpQ_ok h1.2.1 h2.2.1 h1.fz.1 h1.fz.2 h2.fz.1 h2.fz.2 ht
theorem qAddL (e1 : (l, m) = qR a b) (e2 : (l', m') = qR c d) (h1 : Q9 a b) (h2 : Q9 c d) (ht : Tb w) : Calls Tryz.prog 23 #[.agg #[S l, S m], .agg #[S l', S m']] w (Ret w fun v _ => v = Qv (a * d + c * b) (b * d)) := by
  rw [show l = (qR a b).1 from congrArg Prod.fst e1, show m = (qR a b).2 from congrArg Prod.snd e1, show l' = (qR c d).1 from congrArg Prod.fst e2, show m' = (qR c d).2 from congrArg Prod.snd e2]
  exact qAdd_ok h1 h2 ht
theorem qSubL (e1 : (l, m) = qR a b) (e2 : (l', m') = qR c d) (h1 : Q9 a b) (h2 : Q9 c d) (ht : Tb w) : Calls Tryz.prog 56 #[.agg #[S l, S m], .agg #[S l', S m']] w (Ret w fun v _ => v = Qv (a * d - c * b) (b * d)) := by
  rw [show l = (qR a b).1 from congrArg Prod.fst e1, show m = (qR a b).2 from congrArg Prod.snd e1, show l' = (qR c d).1 from congrArg Prod.fst e2, show m' = (qR c d).2 from congrArg Prod.snd e2]
  exact qSub_ok h1 h2 ht
theorem qDivL (e1 : (l, m) = qR a b) (e2 : (l', m') = qR c d) (h1 : Q9 a b) (h2 : Q9 c d) (hc : 0 < c) (ht : Tb w) : Calls Tryz.prog 14 #[.agg #[S l, S m], .agg #[S l', S m']] w (Ret w fun v _ => v = Qv (a * d) (b * c)) := by
  rw [show l = (qR a b).1 from congrArg Prod.fst e1, show m = (qR a b).2 from congrArg Prod.snd e1, show l' = (qR c d).1 from congrArg Prod.fst e2, show m' = (qR c d).2 from congrArg Prod.snd e2]
  exact qDiv_ok h1 h2 hc ht
theorem Qv_congr (hb : 0 < b) (hd : 0 < d) (h : a * d = c * b) : Qv a b = Qv c d := by unfold Qv; rw [qR_congr hb hd h]
end
theorem q9n {n d : Nat} (hn : n < 10 ^ 90) (h0 : 0 < d) (hd : d < 10 ^ 90) : Q9 (n : Int) (d : Int) := ⟨by simpa using hn, by omega, by omega⟩
theorem q9l1 : Q9 1 1 := ⟨by decide, by decide, by decide⟩
theorem q9l2 : Q9 2 1 := ⟨by decide, by decide, by decide⟩
theorem q9l0 : Q9 0 1 := ⟨by decide, by decide, by decide⟩
theorem red_nat {a b : Nat} (hb : 0 < b) : redN (a : Int) (b : Int) = ((a / Nat.gcd a b : Nat) : Int) ∧ redD (a : Int) (b : Int) = ((b / Nat.gcd a b : Nat) : Int) := by
  unfold redN redD
  rw [if_neg om, if_neg om]
  exact ⟨rfl, rfl⟩
theorem spOfQ_ok {sO pl a b : Nat} {w : World} (hS : Sc sO) (ha : a < 10 ^ 90) (hb : b < 10 ^ 90) (h0 : 0 < b) (ht : Tb w) :
    Calls Tryz.prog 50 #[.agg #[.int .i64 pl, S (nS sO)], .agg #[S (qR (a : Int) (b : Int)).1, S (qR (a : Int) (b : Int)).2]] w (Ret w fun v _ => v = .agg #[S (nS (ofP sO a b).1), S (nS (ofP sO a b).2)]) := by
  have hg : 0 < Nat.gcd a b := Nat.gcd_pos_of_pos_right _ h0
  have e1 : a / Nat.gcd a b * Nat.gcd a b = a := Nat.div_mul_cancel (Nat.gcd_dvd_left _ _)
  have e2 : b / Nat.gcd a b * Nat.gcd a b = b := Nat.div_mul_cancel (Nat.gcd_dvd_right _ _)
  have h1 := ofP_mul (S := sO) (n := a / Nat.gcd a b) (d := b / Nat.gcd a b) hg
  rw [e1, e2] at h1
  have hle : a / Nat.gcd a b < 10 ^ 90 := Nat.lt_of_le_of_lt (Nat.div_le_self _ _) ha
  have hle2 : b / Nat.gcd a b < 10 ^ 90 := Nat.lt_of_le_of_lt (Nat.div_le_self _ _) hb
  have hp : 0 < b / Nat.gcd a b := Nat.div_pos (Nat.le_of_dvd h0 (Nat.gcd_dvd_right _ _)) hg
  rw [h1]
  unfold qR
  rw [(red_nat h0).1, (red_nat h0).2]
  exact spOf_ok hS (fi_pow hle dc) (fi_pow hle2 dc) hp (fi_mul hle hS.lt dc) ht
def lgF : Nat → Nat → Nat → Nat → Option (Nat × Nat)
  | 0, _, _, _ => none
  | f + 1, n, d, k => if 2 * d < n then lgF f n (2 * d) (k + 1) else some (d, k)
def logP (S n d : Nat) : Option N2 := if n < 10 ^ 80 ∧ d < 10 ^ 80 ∧ 0 < d ∧ d ≤ n then (lgF 100 n d 0).bind fun p => (artP S (ofP S 1 3)).bind fun h => (artP S (ofP S (n - p.1) (n + p.1))).map fun a => plP a (byP h p.2 1) else none
theorem log_inv {S n d : Nat} {r : N2} (h : logP S n d = some r) : n < 10 ^ 80 ∧ d < 10 ^ 80 ∧ 0 < d ∧ d ≤ n ∧ ∃ p x a, lgF 100 n d 0 = some p ∧ artP S (ofP S 1 3) = some x ∧ artP S (ofP S (n - p.1) (n + p.1)) = some a ∧ r = plP a (byP x p.2 1) := by
  unfold logP at h
  split at h
  · rename_i h1
    refine ⟨h1.1, h1.2.1, h1.2.2.1, h1.2.2.2, ?_⟩
    cases hp : lgF 100 n d 0 with
    | none => rw [hp] at h; cases h
    | some p =>
      rw [hp, Option.bind_some] at h
      cases hx : artP S (ofP S 1 3) with
      | none => rw [hx] at h; cases h
      | some x =>
        rw [hx, Option.bind_some] at h
        cases ha : artP S (ofP S (n - p.1) (n + p.1)) with
        | none => rw [ha] at h; cases h
        | some a => rw [ha] at h; cases h; exact ⟨p, x, a, rfl, rfl, ha, rfl⟩
  · cases h
theorem lg_t {f n d k : Nat} {p : Nat × Nat} (h : lgF f n d k = some p) (hl : 2 * d < n) : ∃ g, f = g + 1 ∧ lgF g n (2 * d) (k + 1) = some p := by
  cases f with
  | zero => cases h
  | succ g => unfold lgF at h; rw [if_pos hl] at h; exact ⟨g, rfl, h⟩
theorem lg_f {f n d k : Nat} {p : Nat × Nat} (h : lgF f n d k = some p) (hl : ¬ 2 * d < n) : p = (d, k) := by
  cases f with
  | zero => cases h
  | succ g => unfold lgF at h; rw [if_neg hl] at h; cases h; rfl
theorem art_bd {S : Nat} {t r : N2} (h : artP S t = some r) : Bk 101 r := by
  obtain ⟨_, _, s, hs, rfl⟩ := art_inv h
  obtain ⟨m, hR, hr⟩ := sumP_inv hs
  have h1 : Bk 100 s := hr ▸ hR.res
  exact byP_bd (m := 1) dc h1 dc
theorem log_gt {n e : Nat} (h : 2 * e < n) : 0 < cmpI ((n : Int) * 1) (2 * (e : Int)) := by rw [cmpI_gt om]; decide
theorem log_le {n e : Nat} (h : ¬ 2 * e < n) : ¬ 0 < cmpI ((n : Int) * 1) (2 * (e : Int)) := by have := (cmpI_nonpos (x := (n : Int) * 1) (y := 2 * (e : Int))).2 om; omega
theorem half_q {n e : Nat} : Qv ((n : Int) * 1) ((e : Int) * 2) = Qv (n : Int) ((2 * e : Nat) : Int) := by rw [Int.mul_one, show (e : Int) * 2 = ((2 * e : Nat) : Int) by omega]
theorem sub_q {n e : Nat} (h : e ≤ n) : Qv ((n : Int) * 1 - 1 * (e : Int)) ((e : Int) * 1) = Qv ((n - e : Nat) : Int) (e : Int) := by rw [show (n : Int) * 1 - 1 * (e : Int) = ((n - e : Nat) : Int) by omega, Int.mul_one]
theorem add_q {n e : Nat} : Qv ((n : Int) * 1 + 1 * (e : Int)) ((e : Int) * 1) = Qv ((n + e : Nat) : Int) (e : Int) := by rw [show (n : Int) * 1 + 1 * (e : Int) = ((n + e : Nat) : Int) by omega, Int.mul_one]
theorem div_q {n e : Nat} (h0 : 0 < e) : Qv (((n - e : Nat) : Int) * (e : Int)) ((e : Int) * ((n + e : Nat) : Int)) = Qv ((n - e : Nat) : Int) ((n + e : Nat) : Int) :=
  Qv_congr (Int.mul_pos om om) om (by rw [Int.mul_assoc])
theorem lit3 : ([51] : List UInt8) = nS 3 := by decide +kernel
set_option maxRecDepth 100000 in
theorem log_ok {sO pl n d : Nat} {r : N2} {w : World} (hS : Sc sO) (hh : logP sO n d = some r) (ht : Tb w) :
    Calls Tryz.prog 67 #[.agg #[.int .i64 pl, S (nS sO)], .agg #[S ((qR (((n : Nat)) : Int) (((d : Nat)) : Int)).1), S ((qR (((n : Nat)) : Int) (((d : Nat)) : Int)).2)]] w (Ret w fun v w' => v = .agg #[S (nS r.1), S (nS r.2)]) := by
 obtain ⟨hn, hd, hd0, hdn, p, x, a, hp, hx, ha, rfl⟩ := log_inv hh;have hxb := art_bd hx;have hab := art_bd ha;refine f_in Tryz.func67 rfl ?_;refine go ?_;refine bx (fun apq aqi r8 => ?_);have aos := aqi.2;refine bx (fun ap6 aqa aot => ?_);have r8 := be aqa.2 r8;have aos := xt aos aqa.2;refine al inf1056 (fun ap2 ap7 sc => ?_);have r8 := be ap7.2 r8;have aot := be ap7.2 aot;have aos := xt aos ap7.2;refine go ?_;refine al inf36 (fun ap4 ap5 ap8 => ?_);have r8 := be ap5.2 r8;have aot := be ap5.2 aot;have sc := be ap5.2 sc;have aos := xt aos ap5.2;refine al inf36 (fun aqy ap3 ap9 => ?_);have r8 := be ap3.2 r8;have aot := be ap3.2 aot;have sc := be ap3.2 sc;have ap8 := be ap3.2 ap8;have aos := xt aos ap3.2;refine SA ap8 (fun aqz apu aol => ?_);have r8 := pb apu r8;have aot := pb apu aot;have sc := pb apu sc;have ap9 := pb apu ap9;have aos := plw apu aos;have aq0 := psz apu;refine SA ap9 (fun aqj apv aom => ?_);have r8 := pb apv r8;have aot := pb apv aot;have sc := pb apv sc;have aol := pb apv aol;have aos := plw apv aos;have aq1 := psz apv;refine go ?_;refine c_lp [(7, 7), (17, 28)] (fun kk e W => ∃ f : Nat, ∃ z : Nat, ∃ k : Nat, (f = kk) ∧ (e 7 = .int .i64 k) ∧ (lgF f n z k = some p) ∧ (0 < z) ∧ (z ≤ n) ∧ (z < 10 ^ 81) ∧ (k + f ≤ 100) ∧ (aqj.heap.size ≤ W.heap.size) ∧ (Ext w W) ∧ (Blk W (w.heap.size) 70 #[.int .i64 pl, S (nS sO)]) ∧ (Blk W (ap6.heap.size) 72 #[S ([]), S ([])]) ∧ (Blk W (ap2.heap.size) 25 #[S ([50]), S ([49])]) ∧ (Blk W (ap4.heap.size) 25 #[S ([49]), S ([49])]) ∧ (Blk W (apq.heap.size) 25 #[S ((qR (((n : Nat)) : Int) (((z : Nat)) : Int)).1), S ((qR (((n : Nat)) : Int) (((z : Nat)) : Int)).2)])) ((100)) ⟨100, d, 0, rfl, rfl, hp, hd0, hdn, om, om, (Nat.le_refl _), aos, r8, sc, aol, aom, aot⟩ ?_
 rintro aq2 aq3 aq4 ⟨f, z, k, rfl, aqb, hf, he0, hen, heb, hkf, aq5, aoq, r8, sc, aol, aom, hbx⟩;have aq6 := bz aoq;by_cases hl : 2 * z < n;obtain ⟨g, rfl, hh2⟩ := lg_t hf hl;refine go ?_;refine clb en49 (hc := qCmpL rfl q21 (q9n om om om) q9l2 (ht.ext aoq)) (hk := ?_);rintro aq7 aq8 apw rfl;have r8 := be apw.2 r8;have sc := be apw.2 sc;have aol := be apw.2 aol;have aom := be apw.2 aom;have hbx := be apw.2 hbx;have aoq := xt aoq apw.2;have zq1q := log_gt hl;refine go ?_;refine clb en218 (hc := cEq (Y := .tuple #[.agg #[S ((qR (((n : Nat)) : Int) (((2 * z : Nat)) : Int)).1), S ((qR (((n : Nat)) : Int) (((2 * z : Nat)) : Int)).2)], .int .i64 (0)]) (qDivL rfl q21 (q9n om om om) q9l2 dc (ht.ext aoq)) half_q) (hk := ?_);rintro aq9 ara apx rfl;have r8 := be apx.2 r8;have sc := be apx.2 sc;have aol := be apx.2 aol;have aom := be apx.2 aom;have hbx := be apx.2 hbx;have aoq := xt aoq apx.2;refine go ?_;refine SA hbx (fun arb apy aqk => ?_);have r8 := pb apy r8;have sc := pb apy sc;have aol := pb apy aol;have aom := pb apy aom;have aoq := plw apy aoq;have arc := psz apy;refine go ?_;refine l_op (k_add (a := (k : Int)) (b := 1) (c := ((k + 1 : Nat) : Int)) rfl rfl (by unfold In64; omega) om ?_);refine go ?_;exact lend ⟨g, 2 * z, k + 1, rfl, rfl, hh2, om, om, om, om, om, aoq, r8, sc, aol, aom, aqk⟩
 have hpe := lg_f hf hl;subst hpe;have hby := byP_bd (n := k) (d := 1) (m := 9) dc hxb om;refine go ?_;refine clb en49 (hc := qCmpL rfl q21 (q9n om om om) q9l2 (ht.ext aoq)) (hk := ?_);rintro ard arf apz rfl;have r8 := be apz.2 r8;have sc := be apz.2 sc;have aol := be apz.2 aol;have aom := be apz.2 aom;have hbx := be apz.2 hbx;have aoq := xt aoq apz.2;have zq2q := log_le hl;refine go ?_;refine clb en220 (hc := cEq (Y := .tuple #[.agg #[S ((qR (((n - z : Nat)) : Int) (((z : Nat)) : Int)).1), S ((qR (((n - z : Nat)) : Int) (((z : Nat)) : Int)).2)], .int .i64 (0)]) (qSubL rfl q11 (q9n om om om) q9l1 (ht.ext aoq)) (sub_q hen)) (hk := ?_);rintro arh aqc ap0 rfl;have r8 := be ap0.2 r8;have sc := be ap0.2 sc;have aol := be ap0.2 aol;have aom := be ap0.2 aom;have hbx := be ap0.2 hbx;have aoq := xt aoq ap0.2;refine go ?_;refine al inf36 (fun ari ap1 aql => ?_);have r8 := be ap1.2 r8;have sc := be ap1.2 sc;have aol := be ap1.2 aol;have aom := be ap1.2 aom;have hbx := be ap1.2 hbx;have aoq := xt aoq ap1.2;refine SA aql (fun arj apr aon => ?_);have r8 := pb apr r8;have sc := pb apr sc;have aol := pb apr aol;have aom := pb apr aom;have hbx := pb apr hbx;have aoq := plw apr aoq;have ark := psz apr;refine go ?_;refine clb en217 (hc := cEq (Y := .tuple #[.agg #[S ((qR (((n + z : Nat)) : Int) (((z : Nat)) : Int)).1), S ((qR (((n + z : Nat)) : Int) (((z : Nat)) : Int)).2)], .int .i64 (0)]) (qAddL rfl q11 (q9n om om om) q9l1 (ht.ext aoq)) add_q) (hk := ?_)
 rintro arl aqd aps rfl;have r8 := be aps.2 r8;have sc := be aps.2 sc;have aol := be aps.2 aol;have aom := be aps.2 aom;have hbx := be aps.2 hbx;have aon := be aps.2 aon;have aoq := xt aoq aps.2;refine go ?_;refine al inf36 (fun arm apt aqm => ?_);have r8 := be apt.2 r8;have sc := be apt.2 sc;have aol := be apt.2 aol;have aom := be apt.2 aom;have hbx := be apt.2 hbx;have aon := be apt.2 aon;have aoq := xt aoq apt.2;refine SA aqm (fun arn apj aoo => ?_);have r8 := pb apj r8;have sc := pb apj sc;have aol := pb apj aol;have aom := pb apj aom;have hbx := pb apj hbx;have aon := pb apj aon;have aoq := plw apj aoq;have aro := psz apj;refine go ?_;refine clb en218 (hc := cEq (Y := .tuple #[.agg #[S ((qR (((n - z : Nat)) : Int) (((n + z : Nat)) : Int)).1), S ((qR (((n - z : Nat)) : Int) (((n + z : Nat)) : Int)).2)], .int .i64 (0)]) (qDivL rfl rfl (q9n om om om) (q9n om om om) om (ht.ext aoq)) (div_q he0)) (hk := ?_);rintro arp aqe apk rfl;have r8 := be apk.2 r8;have sc := be apk.2 sc;have aol := be apk.2 aol;have aom := be apk.2 aom;have hbx := be apk.2 hbx;have aon := be apk.2 aon;have aoo := be apk.2 aoo;have aoq := xt aoq apk.2;refine go ?_;refine al inf36 (fun arq apl aqn => ?_);have r8 := be apl.2 r8
 have sc := be apl.2 sc;have aol := be apl.2 aol;have aom := be apl.2 aom;have hbx := be apl.2 hbx;have aon := be apl.2 aon;have aoo := be apl.2 aoo;have aoq := xt aoq apl.2;refine SA aqn (fun aqo ao4 aop => ?_);have r8 := pb ao4 r8;have sc := pb ao4 sc;have aol := pb ao4 aol;have aom := pb ao4 aom;have hbx := pb ao4 hbx;have aon := pb ao4 aon;have aoo := pb ao4 aoo;have aoq := plw ao4 aoq;have arr := psz ao4;refine go ?_;refine c_an 6 ?_;refine sf ?_;refine sf_ae (V := .agg #[S (nS ((ofP sO 1 3).1)), S (nS ((ofP sO 1 3).2))]) (fun ar1 ar2 ao5 ar3 => ?_) ?_;refine clb en1032 (hc := spOfL_ok (n := 1) (d := 3) lit1 lit3 hS fi1 (fi_pow (k := 1) dc dc) dc (by rw [Nat.one_mul]; exact hS.fi) (ht.ext (xt aoq ao5))) (hk := ?_);rintro ar4 ar5 ao6 rfl;have aqp := ao6.2;refine go ?_;exact fs ⟨aqp, rfl⟩;refine sf_ae (V := .agg #[S (nS x.1), S (nS x.2)]) (fun ar6 ar7 ao7 ar8 => ?_) ?_;refine cl en5117 (artanh_ok hS hx (ht.ext (xt aoq ao7))) ?_;rintro ar9 asa ao8 rfl;have aqq := ao8.2;refine go ?_;exact fs ⟨aqq, rfl⟩;refine sf_ah (fun v wz => ∃ b : Nat, v = .pointer (some ⟨b, 0, none⟩) ∧ aqo.heap.size ≤ b ∧ Blk wz b 72 #[S ([]), S ([])]) (hs := fun _ _ _ k ⟨b, e, l, h⟩ => ⟨b, e, l, h.ext k⟩) (fun asb asc ao9 asd => ?_) ?_;refine al inf1056 (fun ase apa aqr => ?_);have aqs := apa.2;refine go ?_
 exact fs ⟨aqs, ⟨_, rfl, (by have := bz ao9; omega), aqr⟩⟩;refine sf ?_;intro asf asg apb aqt;have r8 := be apb.2 r8;have sc := be apb.2 sc;have aol := be apb.2 aol;have aom := be apb.2 aom;have hbx := be apb.2 hbx;have aon := be apb.2 aon;have aoo := be apb.2 aoo;have aop := be apb.2 aop;have aoq := xt aoq apb.2;obtain ⟨aqf, aqg, ash, aqh⟩ := (aqt 5 14 rfl rfl);have asi := bt aqh;refine SA aqh (fun asj aou aor => ?_);have r8 := pb aou r8;have sc := pb aou sc;have aol := pb aou aol;have aom := pb aou aom;have hbx := pb aou hbx;have aon := pb aou aon;have aoo := pb aou aoo;have aop := pb aou aop;have aoq := plw aou aoq;have ask := psz aou;refine go ?_;refine c_an 10 ?_;refine sf ?_;refine sf_ae (V := .agg #[S (nS ((ofP sO (n - z) (n + z)).1)), S (nS ((ofP sO (n - z) (n + z)).2))]) (fun asy asz aov as0 => ?_) ?_;refine clb en1032 (hc := spOfQ_ok (a := (n - z)) (b := (n + z)) hS om om om (ht.ext (xt aoq aov))) (hk := ?_);rintro as1 as2 aow rfl;have aqu := aow.2;refine go ?_;exact fs ⟨aqu, rfl⟩;refine sf_ae (V := .agg #[S (nS a.1), S (nS a.2)]) (fun as3 as4 aox as5 => ?_) ?_;refine cl en5117 (artanh_ok hS ha (ht.ext (xt aoq aox))) ?_;rintro as6 as7 aoy rfl;have aqv := aoy.2;refine go ?_;exact fs ⟨aqv, rfl⟩;refine sf ?_;refine sf_ae (V := .agg #[S (nS ((byP x (k) 1).1)), S (nS ((byP x (k) 1).2))]) (fun ath ati aoz atj => ?_) ?_
 refine clb en1070 (hc := spBy_ok (hxb.mono dc) om dc dc (ht.ext (xt aoq aoz))) (hk := ?_);rintro atk atl ao0 rfl;have aqw := ao0.2;refine go ?_;exact fs ⟨aqw, rfl⟩;refine sf ?_;intro atm atn ao1 ato;have r8 := be ao1.2 r8;have sc := be ao1.2 sc;have aol := be ao1.2 aol;have aom := be ao1.2 aom;have hbx := be ao1.2 hbx;have aon := be ao1.2 aon;have aoo := be ao1.2 aoo;have aop := be ao1.2 aop;have aor := be ao1.2 aor;have aoq := xt aoq ao1.2;refine clb en1078 (hc := spPlus_ok (by have := hab.1; have := hby.1; unfold Fi; omega) (by have := hab.2; have := hby.2; unfold Fi; omega) (ht.ext aoq)) (hk := ?_);rintro atp atq ao2 rfl;have r8 := be ao2.2 r8;have sc := be ao2.2 sc;have aol := be ao2.2 aol;have aom := be ao2.2 aom;have hbx := be ao2.2 hbx;have aon := be ao2.2 aon;have aoo := be ao2.2 aoo;have aop := be ao2.2 aop;have aor := be ao2.2 aor;have aoq := xt aoq ao2.2;refine SA sc (fun atr ao3 aqx => ?_);have r8 := pb ao3 r8;have aol := pb ao3 aol;have aom := pb ao3 aom;have hbx := pb ao3 hbx;have aon := pb ao3 aon;have aoo := pb ao3 aoo;have aop := pb ao3 aop;have aor := pb ao3 aor;have aoq := plw ao3 aoq;have att := psz ao3;refine go ?_;refine f_out (v := .agg #[S (nS ((plP a (byP x (k) 1)).1)), S (nS ((plP a (byP x (k) 1)).2))]) (res1  rfl ?_) aoq rfl
 refine res_cellA (t := 4) (cs := [S (nS ((plP a (byP x (k) 1)).1)), S (nS ((plP a (byP x (k) 1)).2))]) (b := ap6.heap.size) (o := 0) U1056 rfl sz1056 ?_ ?_;exact rfl;exact Blk.cells aqx (i := 0) rfl
end Go.Proofs.YtjijfnggomhpiaaGreatDoor
namespace Go.Proofs.YtjijfnggomhpiaaGreatDoor
set_option maxRecDepth 100000
open Go Go.Eng Go.RowKit
theorem callsDIn_of_wpS {n : Nat} {P : Program} {f : FuncId} {fn : Func} {c : Code} {args : Array Value} {u : FrameMode} {w : World} {R : Ending → FrameMode → World → Prop}
    (hf : P.funcs[f]? = some fn) (hb : fn.body = some c)
    (h : ∀ (c₀ : Frame) (cs : List Frame), c₀.mode = u →
      c.wpS P (bodyPostS P fn c₀ cs R) { tmps := args ++ Array.replicate (fn.ntmps - args.size) undef, defers := [] } (c₀ :: cs) w) :
    CallsDIn Fence.wide n P f args u w R := by
  refine ⟨trivial, fun c₀ cs hu _ => ?_⟩
  let b : Frame := { (default : Frame) with fn := f, kind := .deferred }
  have henter : Frame.enter P f args .deferred =
      b.at { tmps := args ++ Array.replicate (fn.ntmps - args.size) undef, defers := [] } [.code c] := by
    simp [Frame.enter, Frame.at, hf, hb, b]
  obtain ⟨e, a', cs', w', hq, harr⟩ := h c₀ cs hu b [] rfl rfl
  rw [← henter] at harr
  cases e with
  | normal =>
    obtain ⟨hd, u', rfl, v, hr, hR⟩ := hq
    exact ⟨.returned v, u', w', _, hR, comesIn_wide.2 (Steps.trans harr (.one step_end)), rfl, rfl, rfl, hd, fn, hf, hr⟩
  | ret =>
    obtain ⟨hd, u', rfl, v, hr, hR⟩ := hq
    obtain ⟨todo, hs⟩ := harr
    exact ⟨.returned v, u', w', _, hR, comesIn_wide.2 hs, rfl, rfl, rfl, hd, fn, hf, hr⟩
  | panic chain =>
    obtain ⟨hd, u', rfl, hR⟩ := hq
    obtain ⟨todo, hs⟩ := harr
    exact ⟨.panicked chain, u', w', _, hR, comesIn_wide.2 hs, rfl, rfl, rfl, hd, fn, hf⟩
  | exit id => exact hq.elim
  | goto l => exact hq.elim
  | outgrown =>
    obtain ⟨u', hR⟩ := hq
    exact ⟨.outgrown, u', w', b, hR, harr.resolve_left (by simp [b]), rfl, rfl, trivial⟩
theorem dIn {n : Nat} {P : Program} {f : FuncId} {fn : Func} {c : Code} {args : List Value} {u : FrameMode} {w : World} {R : Ending → FrameMode → World → Prop}
    (hf : P.funcs[f]? = some fn) (hb : fn.body = some c)
    (h : ∀ (c₀ : Frame) (cs : List Frame), c₀.mode = u → c.wpS P (bodyPostS P fn c₀ cs R) (act (args.length + (fn.ntmps - args.length)) (ent args) []) (c₀ :: cs) w) : CallsDIn Fence.wide n P f args.toArray u w R := by
  refine callsDIn_of_wpS hf hb (fun c₀ cs hu => ?_)
  rw [act_start]
  exact h c₀ cs hu
section
variable {P : Program} {r : Option Nat} {n N : Nat} {e : Nat → Value} {ds : List Deferred} {w : World} {Q : Exit → Act → World → Prop} {K : Act → World → Prop}
variable {d ty : Nat} {pos : String} {af : Array Edge} {ats : Array TypeId} {g : Option (Nat × Bool)} {v u : Value} {x y : Operand} {t t' : TypeId}
theorem k_deferV {f : FuncId} {lb : List Value} (hx : ev N e x = .func (.func f) #[] lb.toArray) (hk : K (act N e ({ target := .fn (.func f) lb.toArray, args := #[] } :: ds)) w) :
    Oper.wpIn (Fw none) n P ⟨none, .defer { callee := .value x, args := #[], argTypes := ats }, ty, pos, af, g⟩ (act N e ds) w K Q := by
  refine ⟨fun f _ => Fw_fn none f, ?_⟩
  rw [Fw_round, Oper.semAt_none, act_eval]
  have : (execOp (ev N e) (⟨none, .defer { callee := .value x, args := #[], argTypes := ats }, ty, pos, af, g⟩ : Oper)).run P w = .ok (.defer { target := .fn (.func f) lb.toArray, args := #[] }) w := by
    simp [execOp, resolve, Deferred.ofValue, hx]
  rw [this]
  exact hk
end
section
variable {P : Program} {N i : Nat} {e : Nat → Value} {w : World} {d id ty : Nat} {pos : String} {af : Array Edge} {ats : Array TypeId} {cs : List Frame} {v : Value} {Q : Exit → Act → List Frame → World → Prop} {ops : Array Oper} {rest : List Nat} {op : Op} {dst : Option Tmp}
theorem s_reg0 (hn : List.range ops.size = 0 :: rest) (h0 : ops[0]? = some ⟨some d, .call { callee := .builtin .recover, args := #[], argTypes := ats }, ty, pos, af, none⟩) (hr : recoverD cs = none) (h : wpOpsS P ops Q rest (act N (upd e d .nilIface) []) cs w) :
    (Code.region id ops false).wpS P Q (act N e []) cs w := by
  refine wpS_region ?_
  rw [hn]
  have hx : (execOp (act N e []).eval ⟨some d, .call { callee := .builtin .recover, args := #[], argTypes := ats }, ty, pos, af, none⟩).run P w = .ok .recover w := by
    simp [execOp, resolve, invoke, builtin]
  simp only [wpOpsS, h0, Region.wanted, if_true, hx, hr]
  rw [act_put]
  exact h
theorem so_val (h0 : ops[i]? = some ⟨some d, op, ty, pos, af, none⟩) (hx : (execOp (ev N e) (⟨some d, op, ty, pos, af, none⟩ : Oper)).run P w = .ok (.value v) w) (h : wpOpsS P ops Q rest (act N (upd e d v) []) cs w) :
    wpOpsS P ops Q (i :: rest) (act N e []) cs w := by
  have hx' : (execOp (act N e []).eval (⟨some d, op, ty, pos, af, none⟩ : Oper)).run P w = .ok (.value v) w := by rw [act_eval]; exact hx
  simp only [wpOpsS, h0, Region.wanted, if_true, hx']
  show wpOpsS P ops Q rest ((act N e []).put (some d) v) cs w
  rw [act_put]
  exact h
theorem so_nil (h : Q .normal (act N e []) cs w) : wpOpsS P ops Q [] (act N e []) cs w := h
end
theorem s_reg7 {P : Program} {N : Nat} {e : Nat → Value} {w : World} {d id ty : Nat} {pos : String} {af : Array Edge} {ats : Array TypeId} {cs : List Frame} {Q : Exit → Act → List Frame → World → Prop}
    {d1 ty1 d2 ty2 d3 ty3 d4 ty4 d5 ty5 d6 ty6 : Nat} {pos1 pos2 pos3 pos4 pos5 pos6 : String} {af1 af2 af3 af4 af5 af6 : Array Edge} {op1 op2 op3 op4 op5 op6 : Op} {v1 v2 v3 v4 v5 v6 : Value}
    (hr : recoverD cs = none) (h1 : (execOp (ev N (upd e d .nilIface)) (⟨some d1, op1, ty1, pos1, af1, none⟩ : Oper)).run P w = .ok (.value v1) w) (h2 : (execOp (ev N (upd (upd e d .nilIface) d1 v1)) (⟨some d2, op2, ty2, pos2, af2, none⟩ : Oper)).run P w = .ok (.value v2) w) (h3 : (execOp (ev N (upd (upd (upd e d .nilIface) d1 v1) d2 v2)) (⟨some d3, op3, ty3, pos3, af3, none⟩ : Oper)).run P w = .ok (.value v3) w) (h4 : (execOp (ev N (upd (upd (upd (upd e d .nilIface) d1 v1) d2 v2) d3 v3)) (⟨some d4, op4, ty4, pos4, af4, none⟩ : Oper)).run P w = .ok (.value v4) w) (h5 : (execOp (ev N (upd (upd (upd (upd (upd e d .nilIface) d1 v1) d2 v2) d3 v3) d4 v4)) (⟨some d5, op5, ty5, pos5, af5, none⟩ : Oper)).run P w = .ok (.value v5) w) (h6 : (execOp (ev N (upd (upd (upd (upd (upd (upd e d .nilIface) d1 v1) d2 v2) d3 v3) d4 v4) d5 v5)) (⟨some d6, op6, ty6, pos6, af6, none⟩ : Oper)).run P w = .ok (.value v6) w) (h : Q .normal (act N (upd (upd (upd (upd (upd (upd (upd e d .nilIface) d1 v1) d2 v2) d3 v3) d4 v4) d5 v5) d6 v6) []) cs w) :
    (Code.region id #[⟨some d, .call { callee := .builtin .recover, args := #[], argTypes := ats }, ty, pos, af, none⟩, ⟨some d1, op1, ty1, pos1, af1, none⟩, ⟨some d2, op2, ty2, pos2, af2, none⟩, ⟨some d3, op3, ty3, pos3, af3, none⟩, ⟨some d4, op4, ty4, pos4, af4, none⟩, ⟨some d5, op5, ty5, pos5, af5, none⟩, ⟨some d6, op6, ty6, pos6, af6, none⟩] false).wpS P Q (act N e []) cs w :=
  s_reg0 (rest := [1, 2, 3, 4, 5, 6]) rfl rfl hr (so_val rfl h1 (so_val rfl h2 (so_val rfl h3 (so_val rfl h4 (so_val rfl h5 (so_val rfl h6 (so_nil h)))))))
theorem cmpI_ret {n b1 b2 : Nat} {w : World} :
    CallsDIn Fence.wide n Tryz.prog 109 #[.pointer (some ⟨b1, 0, none⟩), .pointer (some ⟨b2, 0, none⟩)] .returning w (fun e u' w' => (∃ v, e = .returned v) ∧ u' = .returning ∧ w' = w) := by
  refine dIn (args := [.pointer (some ⟨b1, 0, none⟩), .pointer (some ⟨b2, 0, none⟩)]) Tryz.func109 rfl (fun c₀ cs hu => ?_)
  refine wpS_seq ?_
  refine s_reg7 (v1 := .tuple #[.nilIface, .bool false]) (v2 := .tuple #[.nilIface, .bool false]) (v3 := .nilIface) (v4 := .bool false) (v5 := .nilIface) (v6 := .bool false) (by simp [recoverD, hu]) ?_ ?_ ?_ ?_ ?_ ?_ ?_
  · have h : (Instr.typeAssert .nilIface 20 123 true).run Tryz.prog w = .ok (.tuple #[.nilIface, .bool false]) w := by
      unfold Instr.typeAssert
      simp [run_underlying Tryz.underlying123]
    simp only [execOp]
    exact congrArg (fun r => Result.andThen r fun a w' => Result.ok (Next.value a) w') h
  · rfl
  · rfl
  · rfl
  · rfl
  · rfl
  refine wpS_of_wp (wpIn_wide (n := 0).1 ?_)
  refine c_seq (r := none) ?_
  refine c_reg (r := none) ?_
  refine l_op (r := none) (k_move (v := .bool false) rfl ?_)
  refine l_op (r := none) (k_move (v := .bool false) rfl ?_)
  with_reducible refine l_not (r := none) (d := 12) (s := 11) ?_ ?_ ?_
  exact rfl
  exact rfl
  with_reducible refine l_not (r := none) (d := 13) (s := 11) ?_ ?_ ?_
  exact rfl
  exact rfl
  with_reducible refine l_not (r := none) (d := 14) (s := 11) ?_ ?_ ?_
  exact rfl
  exact rfl
  refine l_op (r := none) (k_pick (t := false) (v := .bool false) rfl rfl ?_)
  refine l_nil ?_
  refine n_then ?_
  refine c_false (r := none) rfl ?_
  refine c_skip (r := none) ?_
  exact ⟨rfl, .returning, by rw [← hu], _, res0 rfl, ⟨_, rfl⟩, rfl, rfl⟩
theorem cmpR_ret {n b1 b2 : Nat} {w : World} :
    CallsDIn Fence.wide n Tryz.prog 134 #[.pointer (some ⟨b1, 0, none⟩), .pointer (some ⟨b2, 0, none⟩)] .returning w (fun e u' w' => (∃ v, e = .returned v) ∧ u' = .returning ∧ w' = w) := by
  refine dIn (args := [.pointer (some ⟨b1, 0, none⟩), .pointer (some ⟨b2, 0, none⟩)]) Tryz.func134 rfl (fun c₀ cs hu => ?_)
  refine wpS_seq ?_
  refine s_reg7 (v1 := .tuple #[.nilIface, .bool false]) (v2 := .tuple #[.nilIface, .bool false]) (v3 := .nilIface) (v4 := .bool false) (v5 := .nilIface) (v6 := .bool false) (by simp [recoverD, hu]) ?_ ?_ ?_ ?_ ?_ ?_ ?_
  · have h : (Instr.typeAssert .nilIface 20 123 true).run Tryz.prog w = .ok (.tuple #[.nilIface, .bool false]) w := by
      unfold Instr.typeAssert
      simp [run_underlying Tryz.underlying123]
    simp only [execOp]
    exact congrArg (fun r => Result.andThen r fun a w' => Result.ok (Next.value a) w') h
  · rfl
  · rfl
  · rfl
  · rfl
  · rfl
  refine wpS_of_wp (wpIn_wide (n := 0).1 ?_)
  refine c_seq (r := none) ?_
  refine c_reg (r := none) ?_
  refine l_op (r := none) (k_move (v := .bool false) rfl ?_)
  refine l_op (r := none) (k_move (v := .bool false) rfl ?_)
  with_reducible refine l_not (r := none) (d := 12) (s := 11) ?_ ?_ ?_
  exact rfl
  exact rfl
  with_reducible refine l_not (r := none) (d := 13) (s := 11) ?_ ?_ ?_
  exact rfl
  exact rfl
  with_reducible refine l_not (r := none) (d := 14) (s := 11) ?_ ?_ ?_
  exact rfl
  exact rfl
  refine l_op (r := none) (k_pick (t := false) (v := .bool false) rfl rfl ?_)
  refine l_nil ?_
  refine n_then ?_
  refine c_false (r := none) rfl ?_
  refine c_skip (r := none) ?_
  exact ⟨rfl, .returning, by rw [← hu], _, res0 rfl, ⟨_, rfl⟩, rfl, rfl⟩
abbrev dV (g b1 b2 : Nat) : Deferred := { target := .fn (.func g) [Value.pointer (some ⟨b1, 0, none⟩), Value.pointer (some ⟨b2, 0, none⟩)].toArray, args := #[] }
def RetsN (g b1 b2 : Nat) : Prop := ∀ (n : Nat) (w : World), CallsDIn Fence.wide n Tryz.prog g #[.pointer (some ⟨b1, 0, none⟩), .pointer (some ⟨b2, 0, none⟩)] .returning w (fun e u' w' => (∃ v, e = .returned v) ∧ u' = .returning ∧ w' = w)
theorem f_inT {P : Program} {f : FuncId} {fn : Func} {c : Code} {args : List Value} {w : World} {R : Ending → World → Prop} (hf : P.funcs[f]? = some fn) (hb : fn.body = some c)
    (h : c.wpIn (Fw none) 0 P (bodyPostDIn Fence.wide 0 P fn R) (act (args.length + (fn.ntmps - args.length)) (ent args) []) w) : Calls P f args.toArray w R := by
  refine callsIn_wide.1 (callsIn_of_wp_defers (n := 0) hf hb trivial ?_)
  rw [act_start]
  exact h
theorem t_retV {fn : Func} {N g b1 b2 : Nat} {e : Nat → Value} {w w' : World} {R : Value → World → Prop} {v : Value} (hg : Enters Tryz.prog g) (hc : RetsN g b1 b2) (hx : Ext w w') (hr : (results fn (act N e [dV g b1 b2]).tmps).run Tryz.prog w' = .ok v w') (hR : R v w') :
    bodyPostDIn Fence.wide 0 Tryz.prog fn (Ret w R) .ret (act N e [dV g b1 b2]) w' := by
  refine leavesIn_cons (f := g) (args := #[.pointer (some ⟨b1, 0, none⟩), .pointer (some ⟨b2, 0, none⟩)]) (by simp) (by simp [Fence.wide]) ?_ (fun _ _ => trivial) ?_
  · have h := hg #[.pointer (some ⟨b1, 0, none⟩), .pointer (some ⟨b2, 0, none⟩)] w'
    simpa [invoke] using h
  · refine CallsDIn.mono (hc _ _) ?_
    rintro e' u' w'' ⟨⟨v', rfl⟩, rfl, rfl⟩
    exact ⟨v, hr, hx, hR⟩
end Go.Proofs.YtjijfnggomhpiaaGreatDoor
namespace Go.Proofs.YtjijfnggomhpiaaGreatDoor
set_option maxRecDepth 100000
open Go Go.Eng Go.RowKit
attribute [local irreducible] wpListIn Code.wpIn Oper.wpIn Exit.then Exit.inBlock Exit.noGoto
set_option maxHeartbeats 40000000
def IvR (x : R × R) : Prop := ∃ a b c d, x.1 = qR a b ∧ x.2 = qR c d ∧ Q9 a b ∧ Q9 c d ∧ a * d ≤ c * b
def cellsI (l : List (R × R)) : List Value := l.flatMap fun x => [S x.1.1, S x.1.2, S x.2.1, S x.2.2]
def iAt (l : List (R × R)) (i : Nat) : R × R := l.getD i (([], []), ([], []))
theorem cellsI_get : ∀ {l : List (R × R)} {i : Nat}, i < l.length → (cellsI l)[i * 4]? = some (S (iAt l i).1.1) ∧ (cellsI l)[i * 4 + 1]? = some (S (iAt l i).1.2) ∧ (cellsI l)[i * 4 + 2]? = some (S (iAt l i).2.1) ∧ (cellsI l)[i * 4 + 3]? = some (S (iAt l i).2.2)
  | a :: t, 0, _ => by simp [cellsI, iAt]
  | a :: t, i + 1, h => by
    have ih := cellsI_get (l := t) (i := i) (by simpa using h)
    rw [show (i + 1) * 4 = i * 4 + 4 by omega, show i * 4 + 4 + 1 = i * 4 + 1 + 4 by omega, show i * 4 + 4 + 2 = i * 4 + 2 + 4 by omega, show i * 4 + 4 + 3 = i * 4 + 3 + 4 by omega]
    simpa [cellsI, iAt] using ih
theorem rw_quad {w : World} {lo i : Nat} {A : Option Addr} {l : List (R × R)} (h : Rw w lo A (cellsI l)) (hi : i < l.length) :
    ∃ b o, A = some ⟨b, o, none⟩ ∧ ∀ j u, [S (iAt l i).1.1, S (iAt l i).1.2, S (iAt l i).2.1, S (iAt l i).2.2][j]? = some u → w.cell? ⟨b, o + i * 4 + j, none⟩ = some u := by
  obtain ⟨h1, h2, h3, h4⟩ := cellsI_get hi
  obtain ⟨b, o, hA, hc1⟩ := h.cells _ _ h1
  obtain ⟨b2, o2, hA2, hc2⟩ := h.cells _ _ h2
  obtain ⟨b3, o3, hA3, hc3⟩ := h.cells _ _ h3
  obtain ⟨b4, o4, hA4, hc4⟩ := h.cells _ _ h4
  rw [hA] at hA2 hA3 hA4; cases hA2; cases hA3; cases hA4
  refine ⟨b, o, hA, fun j u hu => ?_⟩
  match j, hu with
  | 0, hu => simp at hu; subst hu; simpa using hc1
  | 1, hu => simp at hu; subst hu; simpa [Nat.add_assoc] using hc2
  | 2, hu => simp at hu; subst hu; simpa [Nat.add_assoc] using hc3
  | 3, hu => simp at hu; subst hu; simpa [Nat.add_assoc] using hc4
theorem iAt_mem {l : List (R × R)} {i : Nat} (h : i < l.length) : iAt l i ∈ l := by unfold iAt; simp [h]
theorem okL {l m : List UInt8} {a b : Int} (e : (l, m) = qR a b) (h : Q9 a b) : okR (l, m) = true := e ▸ h.ok
theorem encCheck_ok {w : World} :
    Calls Tryz.prog 111 #[.bool (true)] w (Ret w fun v w' => v = .tuple #[]) := by
 refine f_in Tryz.func111 rfl ?_;refine go ?_;exact f_end (res0 rfl) (Ext.refl _) rfl
theorem encValid_ok {x : R × R} {w : World} (hx : IvR x) (ht : Tb w) :
    Calls Tryz.prog 37 #[.agg #[S (x.1.1), S (x.1.2), S (x.2.1), S (x.2.2)]] w (Ret w fun v w' => v = .bool true) := by
 obtain ⟨a, b, c, d, e1, e2, q1, q2, hle⟩ := hx;refine f_in Tryz.func37 rfl ?_;refine go ?_;refine bx (fun aop aoo r8 => ?_);have sc := aoo.2;refine go ?_;refine cl en82 (cB (rValid_ok _ _ _ (ht.ext sc)) (okL e1 q1)) ?_;rintro aoq aor aol rfl;have r8 := be aol.2 r8;have sc := xt sc aol.2;refine go ?_;refine cl en82 (cB (rValid_ok _ _ _ (ht.ext sc)) (okL e2 q2)) ?_;rintro aos aot aom rfl;have r8 := be aom.2 r8;have sc := xt sc aom.2;refine go ?_;refine cl en49 (qCmpL e1 e2 q1 q2 (ht.ext sc)) ?_;rintro aou aov aon rfl;have sc := xt sc aon.2;refine go ?_;exact f_ret1 (t := 2) (v := .bool (decide ((cmpI (a * d) (c * b)) ≤ 0))) rfl sc (congrArg Value.bool (decide_eq_true (cmpI_nonpos.2 hle))) rfl
theorem encNotI_ok {x : R × R} {w : World} (hx : IvR x) (ht : Tb w) :
    Calls Tryz.prog 113 #[.agg #[S (x.1.1), S (x.1.2), S (x.2.1), S (x.2.2)]] w (Ret w fun v w' => v = .bool false) := by
 refine f_in Tryz.func113 rfl ?_;refine go ?_;refine bx (fun aon aom sc => ?_);have r8 := aom.2;refine go ?_;refine l_op (k_loadA (cs := [S (x.1.1), S (x.1.2), S (x.2.1), S (x.2.2)]) (b := w.heap.size) (o := 0) U1032 rfl sz1032 rfl (Blk.cells sc (i := 0) rfl) ?_);refine cl en1056 (encValid_ok hx (ht.ext r8)) ?_;rintro aoo aop aol rfl;have r8 := xt r8 aol.2;refine go ?_;exact f_ret1 (t := 2) (v := .bool (false)) rfl r8 rfl rfl
theorem encNotR_ok {x : R × R} {w : World} (hx : IvR x) (ht : Tb w) :
    Calls Tryz.prog 135 #[.agg #[S (x.1.1), S (x.1.2), S (x.2.1), S (x.2.2)]] w (Ret w fun v w' => v = .bool false) := by
 refine f_in Tryz.func135 rfl ?_;refine go ?_;refine bx (fun aon aom sc => ?_);have r8 := aom.2;refine go ?_;refine l_op (k_loadA (cs := [S (x.1.1), S (x.1.2), S (x.2.1), S (x.2.2)]) (b := w.heap.size) (o := 0) U1032 rfl sz1032 rfl (Blk.cells sc (i := 0) rfl) ?_);refine cl en1056 (encValid_ok hx (ht.ext r8)) ?_;rintro aoo aop aol rfl;have r8 := xt r8 aol.2;refine go ?_;exact f_ret1 (t := 2) (v := .bool (false)) rfl r8 rfl rfl
theorem index_ok {A : Option Addr} {n cp lo g : Nat} {l : List (R × R)} {w : World} (hr : Rw w lo A (cellsI l)) (hn : l.length = n) (hb : n ≤ 1000) (hg : Enters Tryz.prog g) (hf : ∀ i < n, ∀ W, Ext w W → Calls Tryz.prog g #[.agg #[S (iAt l i).1.1, S (iAt l i).1.2, S (iAt l i).2.1, S (iAt l i).2.2]] W (Ret W fun v _ => v = .bool false)) :
    Calls Tryz.prog 148 #[.slice (A) (n) (cp), .func (.func g) #[] #[]] w (Ret w fun v w' => v = .int .i64 (-1)) := by
 refine f_in Tryz.func148 rfl ?_;refine go ?_;have aol := Ext.refl w;refine c_lp [(4, 5), (8, 18)] (fun kk e W => ∃ i : Nat, (n - i = kk) ∧ (e 8 = .int .i64 i) ∧ (i ≤ n) ∧ (Ext w W)) (n - (0)) ⟨0, rfl, rfl, (Nat.zero_le _), aol⟩ ?_;rintro aon aoo aop ⟨i, rfl, sc, hi, r8⟩;have aoq := bz r8;by_cases hl : i < n;obtain ⟨bk, o, hA, hcs⟩ := rw_quad (hr.ext r8) (i := i) om;refine go ?_;refine l_op (k_indexAddr (i := i) (oo := o + i * 4) U1116 sz1032 rfl hA rfl om rfl ?_);refine l_op (k_loadA (cs := [S (iAt l i).1.1, S (iAt l i).1.2, S (iAt l i).2.1, S (iAt l i).2.2]) (b := bk) (o := o + i * 4) U1032 rfl sz1032 rfl hcs ?_);refine l_op (clV (vs := [.agg #[S (iAt l i).1.1, S (iAt l i).1.2, S (iAt l i).2.1, S (iAt l i).2.2]]) (lb := []) hg rfl rfl (hf i om _ r8) ?_);rintro aor aos aom rfl;have r8 := xt r8 aom.2;refine go ?_;refine l_op (k_add (a := (i : Int)) (b := 1) (c := ((i + 1 : Nat) : Int)) sc rfl (by unfold In64; omega) om ?_);refine go ?_;exact lend ⟨i + 1, rfl, rfl, om, r8⟩;refine go ?_;exact f_ret1 (t := 4) (v := .int .i64 ((-1))) rfl r8 rfl rfl
theorem contains_ok {A : Option Addr} {n cp lo g : Nat} {l : List (R × R)} {w : World} (hr : Rw w lo A (cellsI l)) (hn : l.length = n) (hb : n ≤ 1000) (hg : Enters Tryz.prog g) (hf : ∀ i < n, ∀ W, Ext w W → Calls Tryz.prog g #[.agg #[S (iAt l i).1.1, S (iAt l i).1.2, S (iAt l i).2.1, S (iAt l i).2.2]] W (Ret W fun v _ => v = .bool false)) :
    Calls Tryz.prog 112 #[.slice (A) (n) (cp), .func (.func g) #[] #[]] w (Ret w fun v w' => v = .bool false) := by
 refine f_in Tryz.func112 rfl ?_;refine go ?_;refine cl en1135 (index_ok (hr.ext (Ext.refl _)) hn hb hg (fun i hi W e => hf i hi W (xt (Ext.refl _) e))) ?_;rintro aol aom r8 rfl;have sc := r8.2;refine go ?_;exact f_ret1 (t := 4) (v := .bool (false)) rfl sc rfl rfl
end Go.Proofs.YtjijfnggomhpiaaGreatDoor
namespace Go.Proofs.YtjijfnggomhpiaaGreatDoor
set_option maxRecDepth 100000
open Go Go.Eng Go.RowKit
attribute [local irreducible] wpListIn Code.wpIn Oper.wpIn Exit.then Exit.inBlock Exit.noGoto
set_option maxHeartbeats 40000000
theorem computeI_ok {gf n cp lo : Nat} {lb : List Value} {A : Option Addr} {l : List (R × R)} {x : R × R} {w : World} (hg : Enters Tryz.prog gf) (hr : Rw w lo A (cellsI l)) (hn : l.length = n) (hb : n ≤ 1000) (hv : ∀ x ∈ l, IvR x) (hc : ∀ W, Ext w W → Calls Tryz.prog gf lb.toArray W (Ret W fun v _ => v = .agg #[S (x.1.1), S (x.1.2), S (x.2.1), S (x.2.2)])) (ht : Tb w) :
    Calls Tryz.prog 57 #[.func (.func gf) #[] lb.toArray, .slice (A) (n) (cp)] w (Ret w fun v w' => v = .tuple #[.agg #[S (x.1.1), S (x.1.2), S (x.2.1), S (x.2.2)], .int .i64 0]) := by
 refine f_inT Tryz.func57 rfl ?_;refine go ?_;refine al inf1032 (fun aom aou sc => ?_);have r8 := aou.2;refine al inf32 (fun aow aot aol => ?_);have sc := be aot.2 sc;have r8 := xt r8 aot.2;refine go ?_;refine l_op (k_makeFunc (vf := []) (vc := [.pointer (some ⟨w.heap.size, 0, none⟩), .pointer (some ⟨aom.heap.size, 0, none⟩)]) rfl rfl ?_);refine l_op (k_deferV (lb := [.pointer (some ⟨w.heap.size, 0, none⟩), .pointer (some ⟨aom.heap.size, 0, none⟩)]) rfl ?_);refine go ?_;refine clb en1100 (hc := contains_ok (hr.ext r8) hn hb en1101 (fun i hi W e => encNotI_ok (hv _ (iAt_mem om)) ((ht.ext r8).ext e))) (hk := ?_);rintro aox aoy aon rfl;have sc := be aon.2 sc;have aol := be aon.2 aol;have r8 := xt r8 aon.2;refine go ?_;refine cl en1099 (encCheck_ok) ?_;rintro aoz ao0 aoo rfl;have sc := be aoo.2 sc;have aol := be aoo.2 aol;have r8 := xt r8 aoo.2;refine go ?_;refine l_op (clV (f := gf) (lb := lb) (vs := []) hg rfl rfl (hc _ r8) ?_);rintro ao1 ao2 aop rfl;have sc := be aop.2 sc;have aol := be aop.2 aol;have r8 := xt r8 aop.2;refine SA sc (fun ao3 aoq aor => ?_);have aol := pb aoq aol;have r8 := plw aoq r8;have ao4 := psz aoq;refine SO aol (fun ao5 aos aov => ?_);have aor := pb aos aor;have r8 := plw aos r8;have ao6 := psz aos;refine go ?_;refine t_retV (b1 := w.heap.size) (b2 := aom.heap.size) (v := .tuple #[.agg #[S (x.1.1), S (x.1.2), S (x.2.1), S (x.2.2)], .int .i64 0]) en1097 (fun _ _ => cmpI_ret) r8 (res2 (r1 := .cell 4 29) (r2 := .cell 5 30) rfl ?_ ?_) rfl
 refine res_cellA (t := 4) (cs := [S (x.1.1), S (x.1.2), S (x.2.1), S (x.2.2)]) (b := w.heap.size) (o := 0) U1032 rfl sz1032 ?_ ?_;exact rfl;exact Blk.cells aor (i := 0) rfl;refine res_cell (t := 5) (b := aom.heap.size) (o := 0) U32 rfl ?_ ?_;exact rfl;exact Blk.cell aov rfl
theorem computeR_ok {gf n cp lo : Nat} {lb : List Value} {A : Option Addr} {l : List (R × R)} {x : R} {w : World} (hg : Enters Tryz.prog gf) (hr : Rw w lo A (cellsI l)) (hn : l.length = n) (hb : n ≤ 1000) (hv : ∀ x ∈ l, IvR x) (hc : ∀ W, Ext w W → Calls Tryz.prog gf lb.toArray W (Ret W fun v _ => v = .agg #[S (x.1), S (x.2)])) (ht : Tb w) :
    Calls Tryz.prog 87 #[.func (.func gf) #[] lb.toArray, .slice (A) (n) (cp)] w (Ret w fun v w' => v = .tuple #[.agg #[S (x.1), S (x.2)], .int .i64 0]) := by
 refine f_inT Tryz.func87 rfl ?_;refine go ?_;refine al inf36 (fun aom aou sc => ?_);have r8 := aou.2;refine al inf32 (fun aow aot aol => ?_);have sc := be aot.2 sc;have r8 := xt r8 aot.2;refine go ?_;refine l_op (k_makeFunc (vf := []) (vc := [.pointer (some ⟨w.heap.size, 0, none⟩), .pointer (some ⟨aom.heap.size, 0, none⟩)]) rfl rfl ?_);refine l_op (k_deferV (lb := [.pointer (some ⟨w.heap.size, 0, none⟩), .pointer (some ⟨aom.heap.size, 0, none⟩)]) rfl ?_);refine go ?_;refine clb en1100 (hc := contains_ok (hr.ext r8) hn hb en1131 (fun i hi W e => encNotR_ok (hv _ (iAt_mem om)) ((ht.ext r8).ext e))) (hk := ?_);rintro aox aoy aon rfl;have sc := be aon.2 sc;have aol := be aon.2 aol;have r8 := xt r8 aon.2;refine go ?_;refine cl en1099 (encCheck_ok) ?_;rintro aoz ao0 aoo rfl;have sc := be aoo.2 sc;have aol := be aoo.2 aol;have r8 := xt r8 aoo.2;refine go ?_;refine l_op (clV (f := gf) (lb := lb) (vs := []) hg rfl rfl (hc _ r8) ?_);rintro ao1 ao2 aop rfl;have sc := be aop.2 sc;have aol := be aop.2 aol;have r8 := xt r8 aop.2;refine SA sc (fun ao3 aoq aor => ?_);have aol := pb aoq aol;have r8 := plw aoq r8;have ao4 := psz aoq;refine SO aol (fun ao5 aos aov => ?_);have aor := pb aos aor;have r8 := plw aos r8;have ao6 := psz aos;refine go ?_;refine t_retV (b1 := w.heap.size) (b2 := aom.heap.size) (v := .tuple #[.agg #[S (x.1), S (x.2)], .int .i64 0]) en1130 (fun _ _ => cmpR_ret) r8 (res2 (r1 := .cell 4 25) (r2 := .cell 5 30) rfl ?_ ?_) rfl
 refine res_cellA (t := 4) (cs := [S (x.1), S (x.2)]) (b := w.heap.size) (o := 0) U36 rfl sz36 ?_ ?_;exact rfl;exact Blk.cells aor (i := 0) rfl;refine res_cell (t := 5) (b := aom.heap.size) (o := 0) U32 rfl ?_ ?_;exact rfl;exact Blk.cell aov rfl
theorem must_ok {l m : List UInt8} {w : World} :
    Calls Tryz.prog 84 #[.agg #[S (l), S (m)], .int .i64 (0)] w (Ret w fun v w' => v = .agg #[S (l), S (m)]) := by
 refine f_in Tryz.func84 rfl ?_;refine go ?_;refine bx (fun aoo aoq r8 => ?_);have sc := aoq.2;refine al inf36 (fun aos aop aol => ?_);have r8 := be aop.2 r8;have sc := xt sc aop.2;refine go ?_;refine cl en1099 (encCheck_ok) ?_;rintro aot aou aom rfl;have r8 := be aom.2 r8;have aol := be aom.2 aol;have sc := xt sc aom.2;refine go ?_;refine SA aol (fun aov aon aor => ?_);have r8 := pb aon r8;have sc := plw aon sc;have aow := psz aon;refine go ?_;refine f_out (v := .agg #[S (l), S (m)]) (res1  rfl ?_) sc rfl;refine res_cellA (t := 4) (cs := [S (l), S (m)]) (b := aoo.heap.size) (o := 0) U36 rfl sz36 ?_ ?_;exact rfl;exact Blk.cells aor (i := 0) rfl
end Go.Proofs.YtjijfnggomhpiaaGreatDoor
namespace Go.Proofs.YtjijfnggomhpiaaGreatDoor
set_option maxRecDepth 100000
open Go Go.Eng Go.RowKit
attribute [local irreducible] wpListIn Code.wpIn Oper.wpIn Exit.then Exit.inBlock Exit.noGoto
set_option maxHeartbeats 40000000
def flI (a b t : Int) : Int := a * t / b
def clI (a b t : Int) : Int := if a * t % b = 0 then a * t / b else a * t / b + 1
theorem red_div {a b t : Int} (hb : 0 < b) : redN a b * t / redD a b = a * t / b ∧ (redN a b * t % redD a b = 0 ↔ a * t % b = 0) := by
  have h1 := rq_n (n := a) hb
  have h2 := rq_d (n := a) hb
  have hg := gcd_pos (n := a) hb
  generalize redN a b = p at *
  generalize redD a b = q at *
  generalize ((Int.gcd a b : Nat) : Int) = g at *
  subst h1 h2
  rw [show p * g * t = p * t * g by grind]
  refine ⟨(Int.mul_ediv_mul_of_pos_left _ _ hg).symm, ?_⟩
  rw [Int.mul_comm (p * t) g, Int.mul_comm q g, Int.mul_emod_mul_of_pos _ _ hg]
  constructor
  · intro h; rw [h, Int.mul_zero]
  · intro h; rcases Int.mul_eq_zero.1 h with h | h; omega; exact h
theorem rd_fl {a b t : Int} (hb : 0 < b) : rdI (redN a b) (redD a b) t false = flI a b t := by
  unfold rdI flI; rw [if_neg (fun e => absurd e.1 dc), (red_div hb).1]
theorem rd_cl {a b t : Int} (hb : 0 < b) : rdI (redN a b) (redD a b) t true = clI a b t := by
  unfold rdI clI
  rw [(red_div hb).1]
  by_cases h : a * t % b = 0
  · rw [if_pos h, if_neg (fun e => e.2 (showI_zero.2 ((red_div hb).2.2 h)))]
  · rw [if_neg h, if_pos ⟨rfl, fun e => h ((red_div hb).2.1 (showI_zero.1 e))⟩]
def tenI (pl : Nat) : Int := ((10 ^ pl : Nat) : Int)
theorem ten_pos (pl : Nat) : 0 < tenI pl := by unfold tenI; have := Nat.pow_pos (n := pl) (show 0 < 10 by decide); omega
theorem ten_le {pl : Nat} (h : pl ≤ 30) : tenI pl ≤ 10 ^ 30 := by
  unfold tenI
  have h1 : (10 : Nat) ^ pl ≤ 10 ^ 30 := Nat.pow_le_pow_right dc h
  have h2 : (((10 : Nat) ^ 30 : Nat) : Int) = (10 : Int) ^ 30 := by decide
  omega
theorem rd_bound {a b : Int} {pl : Nat} (h : Q9 a b) (hp : pl ≤ 30) : (redN a b * tenI pl).natAbs < 10 ^ 199 := by
  have h1 := h.red.1
  have h2 : (tenI pl).natAbs ≤ 10 ^ 30 := by have := ten_le hp; have := ten_pos pl; omega
  rw [Int.natAbs_mul]
  have h3 : (redN a b).natAbs * (tenI pl).natAbs ≤ 10 ^ 90 * 10 ^ 30 := Nat.mul_le_mul om h2
  have h4 : 10 ^ 90 * 10 ^ 30 < 10 ^ 199 := by decide
  omega
theorem qDown_ok {l m : List UInt8} {a b : Int} {pl : Nat} {w : World} (e : (l, m) = qR a b) (h : Q9 a b) (hp : pl ≤ 30) (ht : Tb w) : Calls Tryz.prog 85 #[.agg #[S l, S m], .int .i64 pl] w (Ret w fun v _ => v = Qv (flI a b (tenI pl)) (tenI pl)) := by
  rw [show l = (qR a b).1 from congrArg Prod.fst e, show m = (qR a b).2 from congrArg Prod.snd e]
  exact cEq (rDown_ok h.ok (fz_rn h.2.1 h.fz.1) (fz_rd h.2.1 h.fz.2) hp (rd_bound h hp) ht) (congrArg (fun z => Qv z (tenI pl)) (rd_fl h.2.1))
theorem qUp_ok {l m : List UInt8} {a b : Int} {pl : Nat} {w : World} (e : (l, m) = qR a b) (h : Q9 a b) (hp : pl ≤ 30) (ht : Tb w) : Calls Tryz.prog 86 #[.agg #[S l, S m], .int .i64 pl] w (Ret w fun v _ => v = Qv (clI a b (tenI pl)) (tenI pl)) := by
  rw [show l = (qR a b).1 from congrArg Prod.fst e, show m = (qR a b).2 from congrArg Prod.snd e]
  exact cEq (rUp_ok h.ok (fz_rn h.2.1 h.fz.1) (fz_rd h.2.1 h.fz.2) hp (rd_bound h hp) ht) (congrArg (fun z => Qv z (tenI pl)) (rd_cl h.2.1))
theorem round1_ok {b1 b2 pl : Nat} {a b c d : Int} {x : R × R} {w : World} (e1 : x.1 = qR a b) (e2 : x.2 = qR c d) (q1 : Q9 a b) (q2 : Q9 c d) (hb1 : Blk w b1 29 #[S x.1.1, S x.1.2, S x.2.1, S x.2.2]) (hb2 : Blk w b2 3 #[.int .i64 pl]) (hp : pl ≤ 30) (ht : Tb w) :
    Calls Tryz.prog 83 #[.pointer (some ⟨b1, 0, none⟩), .pointer (some ⟨b2, 0, none⟩)] w (Ret w fun v w' => v = .agg #[S ((qR (flI a b (tenI pl)) (tenI pl)).1), S ((qR (flI a b (tenI pl)) (tenI pl)).2), S ((qR (clI c d (tenI pl)) (tenI pl)).1), S ((qR (clI c d (tenI pl)) (tenI pl)).2)]) := by
 have zb1 := bt hb1;have zb2 := bt hb2;refine f_in Tryz.func83 rfl ?_;refine go ?_;refine al inf1032 (fun ao9 aot r8 => ?_);have hb1 := be aot.2 hb1;have hb2 := be aot.2 hb2;have sc := aot.2;refine go ?_;refine c_an 13 ?_;refine sf ?_;refine sf_ae (V := .tuple #[.agg #[S ((qR (flI a b (tenI pl)) (tenI pl)).1), S ((qR (flI a b (tenI pl)) (tenI pl)).2)], .int .i64 (0)]) (fun apj apk aol apl => ?_) ?_;refine cl en1090 (qDown_ok e1 q1 hp (ht.ext (xt sc aol))) ?_;rintro apm apn aom rfl;have ao5 := aom.2;refine go ?_;exact fs ⟨ao5, rfl⟩;refine sf ?_;refine sf_ae (V := .agg #[S ((qR (flI a b (tenI pl)) (tenI pl)).1), S ((qR (flI a b (tenI pl)) (tenI pl)).2)]) (fun apv apw aoz apx => ?_) ?_;refine cl en1089 (must_ok) ?_;rintro apy apz aon rfl;have ao6 := aon.2;refine go ?_;exact fs ⟨ao6, rfl⟩;refine sf ?_;refine sf_ae (V := .tuple #[.agg #[S ((qR (clI c d (tenI pl)) (tenI pl)).1), S ((qR (clI c d (tenI pl)) (tenI pl)).2)], .int .i64 (0)]) (fun ap9 aqa aoo aqb => ?_) ?_;refine cl en1091 (qUp_ok e2 q2 hp (ht.ext (xt sc aoo))) ?_;rintro aqc aqd aop rfl;have ao7 := aop.2;refine go ?_;exact fs ⟨ao7, rfl⟩;refine sf ?_;intro aqk aql aoq aqm;have hb1 := be aoq.2 hb1;have hb2 := be aoq.2 hb2;have r8 := be aoq.2 r8;have sc := xt sc aoq.2;refine cl en1089 (must_ok) ?_;rintro aqn aqo aor rfl;have hb1 := be aor.2 hb1;have hb2 := be aor.2 hb2;have r8 := be aor.2 r8;have sc := xt sc aor.2;refine l_op (k_build (vs := [(0, .agg #[S ((qR (flI a b (tenI pl)) (tenI pl)).1), S ((qR (flI a b (tenI pl)) (tenI pl)).2)]), (1, .agg #[S ((qR (clI c d (tenI pl)) (tenI pl)).1), S ((qR (clI c d (tenI pl)) (tenI pl)).2)])]) (cells := #[S ((qR (flI a b (tenI pl)) (tenI pl)).1), S ((qR (flI a b (tenI pl)) (tenI pl)).2), S ((qR (clI c d (tenI pl)) (tenI pl)).1), S ((qR (clI c d (tenI pl)) (tenI pl)).2)]) (pl := [(0, 2), (2, 2)]) U1032 inf1032 (by kernel_rfl) rfl (by kernel_rfl) ?_)
 refine SA r8 (fun aqp aos ao8 => ?_);have hb1 := pb aos hb1;have hb2 := pb aos hb2;have sc := plw aos sc;have aqq := psz aos;refine go ?_;refine f_out (v := .agg #[S ((qR (flI a b (tenI pl)) (tenI pl)).1), S ((qR (flI a b (tenI pl)) (tenI pl)).2), S ((qR (clI c d (tenI pl)) (tenI pl)).1), S ((qR (clI c d (tenI pl)) (tenI pl)).2)]) (res1  rfl ?_) sc rfl;refine res_cellA (t := 2) (cs := [S ((qR (flI a b (tenI pl)) (tenI pl)).1), S ((qR (flI a b (tenI pl)) (tenI pl)).2), S ((qR (clI c d (tenI pl)) (tenI pl)).1), S ((qR (clI c d (tenI pl)) (tenI pl)).2)]) (b := w.heap.size) (o := 0) U1032 rfl sz1032 ?_ ?_;exact rfl;exact Blk.cells ao8 (i := 0) rfl
theorem round_ok {pl : Nat} {a b c d : Int} {x : R × R} {w : World} (e1 : x.1 = qR a b) (e2 : x.2 = qR c d) (q1 : Q9 a b) (q2 : Q9 c d) (hle : a * d ≤ c * b) (hp : pl ≤ 30) (ht : Tb w) :
    Calls Tryz.prog 34 #[.agg #[S (x.1.1), S (x.1.2), S (x.2.1), S (x.2.2)], .int .i64 pl] w (Ret w fun v w' => v = .tuple #[.agg #[S ((qR (flI a b (tenI pl)) (tenI pl)).1), S ((qR (flI a b (tenI pl)) (tenI pl)).2), S ((qR (clI c d (tenI pl)) (tenI pl)).1), S ((qR (clI c d (tenI pl)) (tenI pl)).2)], .int .i64 0]) := by
 refine f_in Tryz.func34 rfl ?_;refine go ?_;refine bx (fun aor aou sc => ?_);have r8 := aou.2;refine bx (fun aos aot aol => ?_);have sc := be aot.2 sc;have r8 := xt r8 aot.2;refine al inf1032 (fun aov aoq aom => ?_);have sc := be aoq.2 sc;have aol := be aoq.2 aol;have r8 := xt r8 aoq.2;refine go ?_;refine l_op (k_makeFunc (vf := []) (vc := [.pointer (some ⟨w.heap.size, 0, none⟩), .pointer (some ⟨aor.heap.size, 0, none⟩)]) rfl rfl ?_);refine l_op (k_loadA (cs := [S (x.1.1), S (x.1.2), S (x.2.1), S (x.2.2)]) (b := w.heap.size) (o := 0) U1032 rfl sz1032 rfl (Blk.cells sc (i := 0) rfl) ?_);refine BS (fun aoy aon aoz aow => ?_);have sc := be aon sc;have aol := be aon aol;have aom := be aon aom;have r8 := xt r8 aon;have ao0 := bz aon;refine clb en1053 (hc := computeI_ok (l := [x]) (x := (qR (flI a b (tenI pl)) (tenI pl), qR (clI c d (tenI pl)) (tenI pl))) en1088 (Rw.of_own aow) rfl (by simp) (fun y hy => by rw [List.mem_singleton.1 hy]; exact ⟨a, b, c, d, e1, e2, q1, q2, hle⟩) (fun W e => round1_ok e1 e2 q1 q2 (sc.ext e) (aol.ext e) hp ((ht.ext r8).ext e)) (ht.ext r8)) (hk := ?_);rintro ao1 ao2 aoo rfl;have sc := be aoo.2 sc;have aol := be aoo.2 aol;have aom := be aoo.2 aom;have r8 := xt r8 aoo.2;refine go ?_;refine SA aom (fun ao3 aop aox => ?_);have sc := pb aop sc;have aol := pb aop aol;have r8 := plw aop r8;have ao4 := psz aop;refine go ?_
 refine f_out (v := .tuple #[.agg #[S ((qR (flI a b (tenI pl)) (tenI pl)).1), S ((qR (flI a b (tenI pl)) (tenI pl)).2), S ((qR (clI c d (tenI pl)) (tenI pl)).1), S ((qR (clI c d (tenI pl)) (tenI pl)).2)], .int .i64 (0)]) (res2 (r1 := .cell 4 29) (r2 := .tmp 5) rfl ?_ ?_) r8 rfl;refine res_cellA (t := 4) (cs := [S ((qR (flI a b (tenI pl)) (tenI pl)).1), S ((qR (flI a b (tenI pl)) (tenI pl)).2), S ((qR (clI c d (tenI pl)) (tenI pl)).1), S ((qR (clI c d (tenI pl)) (tenI pl)).2)]) (b := aos.heap.size) (o := 0) U1032 rfl sz1032 ?_ ?_;exact rfl;exact Blk.cells aox (i := 0) rfl;exact res_tmp (t := 5) (by exact rfl) _
theorem width1_ok {b1 : Nat} {a b c d : Int} {x : R × R} {w : World} (e1 : x.1 = qR a b) (e2 : x.2 = qR c d) (q1 : Q9 a b) (q2 : Q9 c d) (hb1 : Blk w b1 29 #[S x.1.1, S x.1.2, S x.2.1, S x.2.2]) (ht : Tb w) :
    Calls Tryz.prog 88 #[.pointer (some ⟨b1, 0, none⟩)] w (Ret w fun v w' => v = .agg #[S ((qR (c * b - a * d) (d * b)).1), S ((qR (c * b - a * d) (d * b)).2)]) := by
 have zb1 := bt hb1;refine f_in Tryz.func88 rfl ?_;refine go ?_;refine al inf36 (fun aoq aoo sc => ?_);have hb1 := be aoo.2 hb1;have r8 := aoo.2;refine go ?_;refine cl en220 (qSubL e2 e1 q2 q1 (ht.ext r8)) ?_;rintro aor aos aol rfl;have hb1 := be aol.2 hb1;have sc := be aol.2 sc;have r8 := xt r8 aol.2;refine go ?_;refine cl en1089 (must_ok) ?_;rintro aot aou aom rfl;have hb1 := be aom.2 hb1;have sc := be aom.2 sc;have r8 := xt r8 aom.2;refine SA sc (fun aov aon aop => ?_);have hb1 := pb aon hb1;have r8 := plw aon r8;have aow := psz aon;refine go ?_;refine f_out (v := .agg #[S ((qR (c * b - a * d) (d * b)).1), S ((qR (c * b - a * d) (d * b)).2)]) (res1  rfl ?_) r8 rfl;refine res_cellA (t := 1) (cs := [S ((qR (c * b - a * d) (d * b)).1), S ((qR (c * b - a * d) (d * b)).2)]) (b := w.heap.size) (o := 0) U36 rfl sz36 ?_ ?_;exact rfl;exact Blk.cells aop (i := 0) rfl
theorem width_ok {a b c d : Int} {x : R × R} {w : World} (e1 : x.1 = qR a b) (e2 : x.2 = qR c d) (q1 : Q9 a b) (q2 : Q9 c d) (hle : a * d ≤ c * b) (ht : Tb w) :
    Calls Tryz.prog 35 #[.agg #[S (x.1.1), S (x.1.2), S (x.2.1), S (x.2.2)]] w (Ret w fun v w' => v = .tuple #[.agg #[S ((qR (c * b - a * d) (d * b)).1), S ((qR (c * b - a * d) (d * b)).2)], .int .i64 0]) := by
 refine f_in Tryz.func35 rfl ?_;refine go ?_;refine bx (fun aop aor sc => ?_);have r8 := aor.2;refine al inf36 (fun aos aoq aol => ?_);have sc := be aoq.2 sc;have r8 := xt r8 aoq.2;refine go ?_;refine l_op (k_makeFunc (vf := []) (vc := [.pointer (some ⟨w.heap.size, 0, none⟩)]) rfl rfl ?_);refine l_op (k_loadA (cs := [S (x.1.1), S (x.1.2), S (x.2.1), S (x.2.2)]) (b := w.heap.size) (o := 0) U1032 rfl sz1032 rfl (Blk.cells sc (i := 0) rfl) ?_);refine BS (fun aov aom aow aot => ?_);have sc := be aom sc;have aol := be aom aol;have r8 := xt r8 aom;have aox := bz aom;refine clb en1092 (hc := computeR_ok (l := [x]) (x := qR (c * b - a * d) (d * b)) en1093 (Rw.of_own aot) rfl (by simp) (fun y hy => by rw [List.mem_singleton.1 hy]; exact ⟨a, b, c, d, e1, e2, q1, q2, hle⟩) (fun W e => width1_ok e1 e2 q1 q2 (sc.ext e) ((ht.ext r8).ext e)) (ht.ext r8)) (hk := ?_);rintro aoy aoz aon rfl;have sc := be aon.2 sc;have aol := be aon.2 aol;have r8 := xt r8 aon.2;refine go ?_;refine SA aol (fun ao0 aoo aou => ?_);have sc := pb aoo sc;have r8 := plw aoo r8;have ao1 := psz aoo;refine go ?_;refine f_out (v := .tuple #[.agg #[S ((qR (c * b - a * d) (d * b)).1), S ((qR (c * b - a * d) (d * b)).2)], .int .i64 (0)]) (res2 (r1 := .cell 2 25) (r2 := .tmp 3) rfl ?_ ?_) r8 rfl;refine res_cellA (t := 2) (cs := [S ((qR (c * b - a * d) (d * b)).1), S ((qR (c * b - a * d) (d * b)).2)]) (b := aop.heap.size) (o := 0) U36 rfl sz36 ?_ ?_
 exact rfl;exact Blk.cells aou (i := 0) rfl;exact res_tmp (t := 3) (by exact rfl) _
theorem point_ok {l m : List UInt8} {a b : Int} {w : World} (e1 : (l, m) = qR a b) (q1 : Q9 a b) (ht : Tb w) :
    Calls Tryz.prog 21 #[.agg #[S (l), S (m)]] w (Ret w fun v w' => v = .agg #[S (l), S (m), S (l), S (m)]) := by
 refine f_in Tryz.func21 rfl ?_;refine go ?_;refine bx (fun aoo aoq r8 => ?_);have sc := aoq.2;refine al inf1032 (fun aos aop aol => ?_);have r8 := be aop.2 r8;have sc := xt sc aop.2;refine go ?_;refine cl en82 (cB (rValid_ok _ _ _ (ht.ext sc)) (okL e1 q1)) ?_;rintro aot aou aom rfl;have r8 := be aom.2 r8;have aol := be aom.2 aol;have sc := xt sc aom.2;refine go ?_;refine l_op (k_build (vs := [(0, .agg #[S (l), S (m)]), (1, .agg #[S (l), S (m)])]) (cells := #[S (l), S (m), S (l), S (m)]) (pl := [(0, 2), (2, 2)]) U1032 inf1032 (by kernel_rfl) rfl (by kernel_rfl) ?_);refine SA aol (fun aov aon aor => ?_);have r8 := pb aon r8;have sc := plw aon sc;have aow := psz aon;refine go ?_;refine f_out (v := .agg #[S (l), S (m), S (l), S (m)]) (res1  rfl ?_) sc rfl;refine res_cellA (t := 2) (cs := [S (l), S (m), S (l), S (m)]) (b := aoo.heap.size) (o := 0) U1032 rfl sz1032 ?_ ?_;exact rfl;exact Blk.cells aor (i := 0) rfl
end Go.Proofs.YtjijfnggomhpiaaGreatDoor
namespace Go.Proofs.YtjijfnggomhpiaaGreatDoor
open Go Go.Eng Go.RowKit
theorem g36 : Tryz.prog.eqGuardType Tryz.prog.depth 25 = false := by kernel_rfl
theorem st36 : Tryz.prog.stoodInHeld 25 = false := by kernel_rfl
theorem part9 (w : World) (cs : Array Value) (i : Nat) (v : Value) (h : cs[i]? = some v) : (part 9 cs i).run Tryz.prog w = .ok v w := by
  unfold part
  simp [isAgg, run_underlying Tryz.underlying9, h]
theorem eq9 (w : World) (a b : List UInt8) (d : Nat) : (Op.equalIn (d + 1) 9 (S a) (S b)).run Tryz.prog w = .ok (decide (a = b)) w := by
  unfold Op.equalIn
  simp [run_underlying Tryz.underlying9, S]
  have h : ∀ x y : ByteArray, (x == y) = (x.data == y.data) := fun x y => by cases x; cases y; rfl
  rw [h]
  exact Bool.eq_iff_iff.2 (by simp)
theorem eq36 (w : World) (a b : R) : (Op.equal 25 (.agg #[S a.1, S a.2]) (.agg #[S b.1, S b.2])).run Tryz.prog w = .ok (decide (a = b)) w := by
  unfold Op.equal Op.maxDepth
  show (Op.equalIn (9998 + 1 + 1) 25 _ _).run _ _ = _
  unfold Op.equalIn
  obtain ⟨a1, a2⟩ := a
  obtain ⟨b1, b2⟩ := b
  have p1 := part9 w #[S a1, S a2] 0 (S a1) rfl
  have p2 := part9 w #[S a1, S a2] 1 (S a2) rfl
  have p3 := part9 w #[S b1, S b2] 0 (S b1) rfl
  have p4 := part9 w #[S b1, S b2] 1 (S b2) rfl
  have e1 := eq9 w a1 b1 9998
  have e2 := eq9 w a2 b2 9998
  simp [run_underlying Tryz.underlying25, st36, p1, p2, p3, p4, e1, e2]
  by_cases h1 : a1 = b1 <;> by_cases h2 : a2 = b2 <;> simp [h1, h2]
section
variable {r : Option Nat} {n N : Nat} {e : Nat → Value} {ds : List Deferred} {w : World} {Q : Exit → Act → World → Prop} {K : Act → World → Prop}
variable {d ty : Nat} {pos : String} {af : Array Edge} {g : Option (Nat × Bool)} {v u : Value} {x y : Operand} {t t' : TypeId}
theorem guard36 {op : BinOp} (x y : Operand) (a b : Array Value) : (eqGuard op 25 x y (.agg a) (.agg b)).run Tryz.prog w = .ok () w := by
  unfold eqGuard
  cases op <;> simp [g36]
theorem k_eqlR {a b : R} {q : Bool} (hx : ev N e x = .agg #[S a.1, S a.2]) (hy : ev N e y = .agg #[S b.1, S b.2]) (hq : decide (a = b) = q) (hk : K (act N (upd e d (.bool q)) ds) w) :
    Oper.wpIn (Fw r) n Tryz.prog ⟨some d, .binOp .eql 25 x y t', ty, pos, af, g⟩ (act N e ds) w K Q :=
  k_bin hx hy (guard36 ..) (by subst hq; simp [binOp, eq36]) hk
theorem k_neqR {a b : R} {q : Bool} (hx : ev N e x = .agg #[S a.1, S a.2]) (hy : ev N e y = .agg #[S b.1, S b.2]) (hq : (!decide (a = b)) = q) (hk : K (act N (upd e d (.bool q)) ds) w) :
    Oper.wpIn (Fw r) n Tryz.prog ⟨some d, .binOp .neq 25 x y t', ty, pos, af, g⟩ (act N e ds) w K Q :=
  k_bin hx hy (guard36 ..) (by subst hq; simp [binOp, eq36]) hk
end
theorem g1032 : Tryz.prog.eqGuardType Tryz.prog.depth 29 = false := by kernel_rfl
theorem st1032 : Tryz.prog.stoodInHeld 29 = false := by kernel_rfl
theorem eq36d (w : World) (a b : R) (d : Nat) : (Op.equalIn (d + 1 + 1) 25 (.agg #[S a.1, S a.2]) (.agg #[S b.1, S b.2])).run Tryz.prog w = .ok (decide (a = b)) w := by
  unfold Op.equalIn
  obtain ⟨a1, a2⟩ := a
  obtain ⟨b1, b2⟩ := b
  have p1 := part9 w #[S a1, S a2] 0 (S a1) rfl
  have p2 := part9 w #[S a1, S a2] 1 (S a2) rfl
  have p3 := part9 w #[S b1, S b2] 0 (S b1) rfl
  have p4 := part9 w #[S b1, S b2] 1 (S b2) rfl
  have e1 := eq9 w a1 b1 d
  have e2 := eq9 w a2 b2 d
  simp [run_underlying Tryz.underlying25, st36, p1, p2, p3, p4, e1, e2]
  by_cases h1 : a1 = b1 <;> by_cases h2 : a2 = b2 <;> simp [h1, h2]
abbrev Iv (x : R × R) : Value := .agg #[S x.1.1, S x.1.2, S x.2.1, S x.2.2]
section
variable {P : Program} {r : Option Nat} {n N : Nat} {e : Nat → Value} {ds : List Deferred} {w : World} {Q : Exit → Act → World → Prop} {K : Act → World → Prop}
variable {d ty : Nat} {pos : String} {af : Array Edge} {g : Option (Nat × Bool)} {v u : Value} {x y : Operand} {t t' : TypeId}
theorem k_field {fs : Array Field} {f : Field} {cs : List Value} {k off ft : Nat} {D : TypeDesc} (hu : P.underlying t = some (.struct fs)) (hf : fs[k]? = some f) (ho : f.offset = off) (hft : f.type = ft) (hD : P.underlying ft = some D) (hd : D.isRow = false)
    (hx : ev N e x = .agg cs.toArray) (hv : cs[off]? = some v) (hk : K (act N (upd e d v) ds) w) : Oper.wpIn (Fw r) n P ⟨some d, .field t x k, ty, pos, af, g⟩ (act N e ds) w K Q := by
  subst ho hft
  refine k_val (v := v) (w' := w) rfl ?_ (by rw [act_put]; exact hk)
  have hagg : (isAgg f.type).run P w = .ok false w := by
    unfold isAgg
    rw [Sem.run_bind, run_underlying hD w]
    cases D <;> simp_all
  have hv' : cs.toArray[f.offset]? = some v := by rw [List.getElem?_toArray]; exact hv
  simp [execOp, hx, Instr.field, run_underlying hu, hf, asAgg, part, hagg, hv]
end
end Go.Proofs.YtjijfnggomhpiaaGreatDoor
namespace Go.Proofs.YtjijfnggomhpiaaGreatDoor
open Go Go.Eng Go.RowKit
theorem part36a (w : World) (a b c d : List UInt8) : (part 25 #[S a, S b, S c, S d] 0).run Tryz.prog w = .ok (.agg #[S a, S b]) w := by
  unfold part
  simp [isAgg, run_underlying Tryz.underlying25]
theorem part36b (w : World) (a b c d : List UInt8) : (part 25 #[S a, S b, S c, S d] 2).run Tryz.prog w = .ok (.agg #[S c, S d]) w := by
  unfold part
  simp [isAgg, run_underlying Tryz.underlying25]
theorem eq1032 (w : World) (x y : R × R) : (Op.equal 29 (Iv x) (Iv y)).run Tryz.prog w = .ok (decide (x = y)) w := by
  unfold Op.equal Op.maxDepth
  show (Op.equalIn (9997 + 1 + 1 + 1) 29 _ _).run _ _ = _
  unfold Op.equalIn
  obtain ⟨⟨a1, a2⟩, a3, a4⟩ := x
  obtain ⟨⟨b1, b2⟩, b3, b4⟩ := y
  have p1 := part36a w a1 a2 a3 a4
  have p2 := part36b w a1 a2 a3 a4
  have p3 := part36a w b1 b2 b3 b4
  have p4 := part36b w b1 b2 b3 b4
  have e1 := eq36d w (a1, a2) (b1, b2) 9997
  have e2 := eq36d w (a3, a4) (b3, b4) 9997
  simp only [] at e1 e2
  simp [run_underlying Tryz.underlying29, st1032, p1, p2, p3, p4, e1, e2]
  by_cases h1 : a1 = b1 <;> by_cases h2 : a2 = b2 <;> by_cases h3 : a3 = b3 <;> by_cases h4 : a4 = b4 <;> simp [h1, h2, h3, h4]
section
variable {r : Option Nat} {n N : Nat} {e : Nat → Value} {ds : List Deferred} {w : World} {Q : Exit → Act → World → Prop} {K : Act → World → Prop}
variable {d ty : Nat} {pos : String} {af : Array Edge} {g : Option (Nat × Bool)} {v u : Value} {x y : Operand} {t t' : TypeId}
theorem guard1032 {op : BinOp} (x y : Operand) (a b : Array Value) : (eqGuard op 29 x y (.agg a) (.agg b)).run Tryz.prog w = .ok () w := by
  unfold eqGuard
  cases op <;> simp [g1032]
theorem k_eqlI {a b : R × R} {q : Bool} (hx : ev N e x = Iv a) (hy : ev N e y = Iv b) (hq : decide (a = b) = q) (hk : K (act N (upd e d (.bool q)) ds) w) :
    Oper.wpIn (Fw r) n Tryz.prog ⟨some d, .binOp .eql 29 x y t', ty, pos, af, g⟩ (act N e ds) w K Q :=
  k_bin hx hy (guard1032 ..) (by subst hq; simp [binOp, eq1032]) hk
theorem k_neqI {a b : R × R} {q : Bool} (hx : ev N e x = Iv a) (hy : ev N e y = Iv b) (hq : (!decide (a = b)) = q) (hk : K (act N (upd e d (.bool q)) ds) w) :
    Oper.wpIn (Fw r) n Tryz.prog ⟨some d, .binOp .neq 29 x y t', ty, pos, af, g⟩ (act N e ds) w K Q :=
  k_bin hx hy (guard1032 ..) (by subst hq; simp [binOp, eq1032]) hk
end
end Go.Proofs.YtjijfnggomhpiaaGreatDoor
namespace Go.Proofs.YtjijfnggomhpiaaGreatDoor
set_option maxRecDepth 100000
open Go Go.Eng Go.RowKit
attribute [local irreducible] wpListIn Code.wpIn Oper.wpIn Exit.then Exit.inBlock Exit.noGoto
set_option maxHeartbeats 40000000
theorem ivr_point {r : R} {a b : Int} (e : r = qR a b) (h : Q9 a b) : IvR (r, r) := ⟨a, b, a, b, e, e, h, h, Int.le_refl _⟩
theorem encContains_ok {a b c d m n : Int} {x : R × R} {r : R} {w : World} (hx : IvR x) (e1 : x.1 = qR a b) (e2 : x.2 = qR c d) (q1 : Q9 a b) (q2 : Q9 c d) (e : r = qR m n) (q : Q9 m n) (h1 : a * n ≤ m * b) (h2 : m * d ≤ c * n) (ht : Tb w) :
    Calls Tryz.prog 26 #[.agg #[S (x.1.1), S (x.1.2), S (x.2.1), S (x.2.2)], .agg #[S (r.1), S (r.2)]] w (Ret w fun v w' => v = .bool true) := by
 refine f_in Tryz.func26 rfl ?_;refine go ?_;refine bx (fun aom aos sc => ?_);have r8 := aos.2;refine bx (fun aot aor aol => ?_);have sc := be aor.2 sc;have r8 := xt r8 aor.2;refine go ?_;refine l_op (k_loadA (cs := [S (x.1.1), S (x.1.2), S (x.2.1), S (x.2.2)]) (b := w.heap.size) (o := 0) U1032 rfl sz1032 rfl (Blk.cells sc (i := 0) rfl) ?_);refine cl en1056 (encValid_ok hx (ht.ext r8)) ?_;rintro aou aov aon rfl;have sc := be aon.2 sc;have aol := be aon.2 aol;have r8 := xt r8 aon.2;refine go ?_;refine cl en82 (cB (rValid_ok _ _ _ (ht.ext r8)) (okL e q)) ?_;rintro aow aox aoo rfl;have sc := be aoo.2 sc;have aol := be aoo.2 aol;have r8 := xt r8 aoo.2;refine go ?_;refine cl en49 (qCmpL e1 e q1 q (ht.ext r8)) ?_;rintro aoy aoz aop rfl;have sc := be aop.2 sc;have aol := be aop.2 aol;have r8 := xt r8 aop.2;refine go ?_;refine l_want (s := 18) rfl (congrArg Value.bool (decide_eq_true (cmpI_nonpos.2 h1))) ?_;refine go ?_;refine l_want (s := 18) rfl (congrArg Value.bool (decide_eq_true (cmpI_nonpos.2 h1))) ?_;refine go ?_;refine l_want (s := 18) rfl (congrArg Value.bool (decide_eq_true (cmpI_nonpos.2 h1))) ?_;refine go ?_;refine l_want (s := 18) rfl (congrArg Value.bool (decide_eq_true (cmpI_nonpos.2 h1))) ?_;refine cl en49 (qCmpL e e2 q q2 (ht.ext r8)) ?_;rintro ao0 ao1 aoq rfl;have r8 := xt r8 aoq.2;refine l_want (s := 18) rfl (congrArg Value.bool (decide_eq_true (cmpI_nonpos.2 h1))) ?_;refine go ?_;refine l_op (k_pick (t := true) (v := .bool (decide ((cmpI (m * d) (c * n)) ≤ 0))) (congrArg Value.bool (decide_eq_true (cmpI_nonpos.2 h1))) rfl ?_)
 refine go ?_;exact f_ret1 (t := 4) (v := .bool (decide ((cmpI (m * d) (c * n)) ≤ 0))) rfl r8 (congrArg Value.bool (decide_eq_true (cmpI_nonpos.2 h2))) rfl
theorem encWithin_ok {a b c d a' b' c' d' : Int} {x y : R × R} {w : World} (hx : IvR x) (hy : IvR y) (e1 : x.1 = qR a b) (e2 : x.2 = qR c d) (q1 : Q9 a b) (q2 : Q9 c d) (e3 : y.1 = qR a' b') (e4 : y.2 = qR c' d') (q3 : Q9 a' b') (q4 : Q9 c' d') (u1 : a' * b ≤ a * b') (v1 : a * d' ≤ c' * b) (u2 : a' * d ≤ c * b') (v2 : c * d' ≤ c' * d) (ht : Tb w) :
    Calls Tryz.prog 13 #[.agg #[S (x.1.1), S (x.1.2), S (x.2.1), S (x.2.2)], .agg #[S (y.1.1), S (y.1.2), S (y.2.1), S (y.2.2)]] w (Ret w fun v w' => v = .bool true) := by
 refine f_in Tryz.func13 rfl ?_;refine go ?_;refine bx (fun aop aor sc => ?_);have r8 := aor.2;refine bx (fun aos aoq aol => ?_);have sc := be aoq.2 sc;have r8 := xt r8 aoq.2;refine go ?_;refine l_op (k_loadA (cs := [S (x.1.1), S (x.1.2), S (x.2.1), S (x.2.2)]) (b := w.heap.size) (o := 0) U1032 rfl sz1032 rfl (Blk.cells sc (i := 0) rfl) ?_);refine cl en1056 (encValid_ok hx (ht.ext r8)) ?_;rintro aot aou aom rfl;have sc := be aom.2 sc;have aol := be aom.2 aol;have r8 := xt r8 aom.2;refine go ?_;refine l_op (k_loadA (cs := [S (y.1.1), S (y.1.2), S (y.2.1), S (y.2.2)]) (b := aop.heap.size) (o := 0) U1032 rfl sz1032 rfl (Blk.cells aol (i := 0) rfl) ?_);refine go ?_;refine cl en1057 (encContains_ok (x := y) (r := x.1) hy e3 e4 q3 q4 e1 q1 u1 v1 (ht.ext r8)) ?_;rintro aov aow aon rfl;have sc := be aon.2 sc;have aol := be aon.2 aol;have r8 := xt r8 aon.2;refine go ?_;refine l_op (k_loadA (cs := [S (y.1.1), S (y.1.2), S (y.2.1), S (y.2.2)]) (b := aop.heap.size) (o := 0) U1032 rfl sz1032 rfl (Blk.cells aol (i := 0) rfl) ?_);refine go ?_;refine cl en1057 (encContains_ok (x := y) (r := x.2) hy e3 e4 q3 q4 e2 q2 u2 v2 (ht.ext r8)) ?_;rintro aox aoy aoo rfl;have r8 := xt r8 aoo.2;refine go ?_;exact f_ret1 (t := 4) (v := .bool (true)) rfl r8 rfl rfl
theorem ofSub_ok {l m l' m' : List UInt8} {a b p n : Int} {w : World} (e1 : (l, m) = qR a b) (e2 : (l', m') = qR p n) (q1 : Q9 a b) (q2 : Q9 p n) (ht : Tb w) :
    Calls Tryz.prog 59 #[.func (.func 56) #[] #[], .agg #[S (l), S (m)], .agg #[S (l'), S (m')]] w (Ret w fun v w' => v = .agg #[S ((qR (a * n - p * b) (b * n)).1), S ((qR (a * n - p * b) (b * n)).2)]) := by
 refine f_in Tryz.func59 rfl ?_;refine go ?_;refine bx (fun aot aou sc => ?_);have r8 := aou.2;refine bx (fun aor aos aol => ?_);have sc := be aos.2 sc;have r8 := xt r8 aos.2;refine al inf36 (fun aow aoq aom => ?_);have sc := be aoq.2 sc;have aol := be aoq.2 aol;have r8 := xt r8 aoq.2;refine go ?_;refine l_op (clV (f := 56) (lb := []) (vs := [.agg #[S (l), S (m)], .agg #[S (l'), S (m')]]) en220 rfl rfl (qSubL e1 e2 q1 q2 (ht.ext r8)) ?_);rintro aox aoy aon rfl;have sc := be aon.2 sc;have aol := be aon.2 aol;have aom := be aon.2 aom;have r8 := xt r8 aon.2;refine go ?_;refine cl en1089 (must_ok) ?_;rintro aoz ao0 aoo rfl;have sc := be aoo.2 sc;have aol := be aoo.2 aol;have aom := be aoo.2 aom;have r8 := xt r8 aoo.2;refine SA aom (fun ao1 aop aov => ?_);have sc := pb aop sc;have aol := pb aop aol;have r8 := plw aop r8;have ao2 := psz aop;refine go ?_;refine f_out (v := .agg #[S ((qR (a * n - p * b) (b * n)).1), S ((qR (a * n - p * b) (b * n)).2)]) (res1  rfl ?_) r8 rfl;refine res_cellA (t := 6) (cs := [S ((qR (a * n - p * b) (b * n)).1), S ((qR (a * n - p * b) (b * n)).2)]) (b := aor.heap.size) (o := 0) U36 rfl sz36 ?_ ?_;exact rfl;exact Blk.cells aov (i := 0) rfl
theorem sub1_ok {b0 b1 b2 : Nat} {a b c d a' b' c' d' : Int} {x y : R × R} {w : World} (e1 : x.1 = qR a b) (e2 : x.2 = qR c d) (q1 : Q9 a b) (q2 : Q9 c d) (e3 : y.1 = qR a' b') (e4 : y.2 = qR c' d') (q3 : Q9 a' b') (q4 : Q9 c' d') (hb0 : Blk w b0 83 #[.func (.func 56) #[] #[]]) (hb1 : Blk w b1 29 #[S x.1.1, S x.1.2, S x.2.1, S x.2.2]) (hb2 : Blk w b2 29 #[S y.1.1, S y.1.2, S y.2.1, S y.2.2]) (ht : Tb w) :
    Calls Tryz.prog 60 #[.pointer (some ⟨b0, 0, none⟩), .pointer (some ⟨b1, 0, none⟩), .pointer (some ⟨b2, 0, none⟩)] w (Ret w fun v w' => v = .agg #[S ((qR (a * d' - c' * b) (b * d')).1), S ((qR (a * d' - c' * b) (b * d')).2), S ((qR (c * b' - a' * d) (d * b')).1), S ((qR (c * b' - a' * d) (d * b')).2)]) := by
 have zb0 := bt hb0;have zb1 := bt hb1;have zb2 := bt hb2;refine f_in Tryz.func60 rfl ?_;refine go ?_;refine al inf1032 (fun ao3 aoq r8 => ?_);have hb1 := be aoq.2 hb1;have hb0 := be aoq.2 hb0;have hb2 := be aoq.2 hb2;have sc := aoq.2;refine go ?_;refine c_an 11 ?_;refine sf ?_;refine sf_ae (V := .agg #[S ((qR (a * d' - c' * b) (b * d')).1), S ((qR (a * d' - c' * b) (b * d')).2)]) (fun apj apk aol apl => ?_) ?_;refine cl en1055 (ofSub_ok e1 e4 q1 q4 (ht.ext (xt sc aol))) ?_;rintro apm apn aom rfl;have ao1 := aom.2;refine go ?_;exact fs ⟨ao1, rfl⟩;refine sf ?_;intro ap4 ap5 aon ap6;have hb1 := be aon.2 hb1;have hb0 := be aon.2 hb0;have hb2 := be aon.2 hb2;have r8 := be aon.2 r8;have sc := xt sc aon.2;refine cl en1055 (ofSub_ok e2 e3 q2 q3 (ht.ext sc)) ?_;rintro ap7 ap8 aoo rfl;have hb1 := be aoo.2 hb1;have hb0 := be aoo.2 hb0;have hb2 := be aoo.2 hb2;have r8 := be aoo.2 r8;have sc := xt sc aoo.2;refine l_op (k_build (vs := [(0, .agg #[S ((qR (a * d' - c' * b) (b * d')).1), S ((qR (a * d' - c' * b) (b * d')).2)]), (1, .agg #[S ((qR (c * b' - a' * d) (d * b')).1), S ((qR (c * b' - a' * d) (d * b')).2)])]) (cells := #[S ((qR (a * d' - c' * b) (b * d')).1), S ((qR (a * d' - c' * b) (b * d')).2), S ((qR (c * b' - a' * d) (d * b')).1), S ((qR (c * b' - a' * d) (d * b')).2)]) (pl := [(0, 2), (2, 2)]) U1032 inf1032 (by kernel_rfl) rfl (by kernel_rfl) ?_);refine SA r8 (fun ap9 aop ao2 => ?_)
 have hb1 := pb aop hb1;have hb0 := pb aop hb0;have hb2 := pb aop hb2;have sc := plw aop sc;have aqa := psz aop;refine go ?_;refine f_out (v := .agg #[S ((qR (a * d' - c' * b) (b * d')).1), S ((qR (a * d' - c' * b) (b * d')).2), S ((qR (c * b' - a' * d) (d * b')).1), S ((qR (c * b' - a' * d) (d * b')).2)]) (res1  rfl ?_) sc rfl;refine res_cellA (t := 3) (cs := [S ((qR (a * d' - c' * b) (b * d')).1), S ((qR (a * d' - c' * b) (b * d')).2), S ((qR (c * b' - a' * d) (d * b')).1), S ((qR (c * b' - a' * d) (d * b')).2)]) (b := w.heap.size) (o := 0) U1032 rfl sz1032 ?_ ?_;exact rfl;exact Blk.cells ao2 (i := 0) rfl
theorem encSub_ok {a b c d a' b' c' d' : Int} {x y : R × R} {w : World} (hx : IvR x) (hy : IvR y) (e1 : x.1 = qR a b) (e2 : x.2 = qR c d) (q1 : Q9 a b) (q2 : Q9 c d) (e3 : y.1 = qR a' b') (e4 : y.2 = qR c' d') (q3 : Q9 a' b') (q4 : Q9 c' d') (ht : Tb w) :
    Calls Tryz.prog 20 #[.agg #[S (x.1.1), S (x.1.2), S (x.2.1), S (x.2.2)], .agg #[S (y.1.1), S (y.1.2), S (y.2.1), S (y.2.2)]] w (Ret w fun v w' => v = .tuple #[.agg #[S ((qR (a * d' - c' * b) (b * d')).1), S ((qR (a * d' - c' * b) (b * d')).2), S ((qR (c * b' - a' * d) (d * b')).1), S ((qR (c * b' - a' * d) (d * b')).2)], .int .i64 0]) := by
 refine f_in Tryz.func20 rfl ?_;refine go ?_;refine bx (fun aot aoy sc => ?_);have r8 := aoy.2;refine bx (fun aow aox aol => ?_);have sc := be aox.2 sc;have r8 := xt r8 aox.2;refine al inf1032 (fun aou aov aom => ?_);have sc := be aov.2 sc;have aol := be aov.2 aol;have r8 := xt r8 aov.2;refine go ?_;refine al inf1077 (fun ao3 aos aoz => ?_);have sc := be aos.2 sc;have aol := be aos.2 aol;have aom := be aos.2 aom;have r8 := xt r8 aos.2;refine SO aoz (fun ao0 aop aon => ?_);have sc := pb aop sc;have aol := pb aop aol;have aom := pb aop aom;have r8 := plw aop r8;have ao4 := psz aop;refine go ?_;refine l_op (k_makeFunc (vf := []) (vc := [.pointer (some ⟨aou.heap.size, 0, none⟩), .pointer (some ⟨w.heap.size, 0, none⟩), .pointer (some ⟨aot.heap.size, 0, none⟩)]) rfl rfl ?_);refine l_op (k_loadA (cs := [S (x.1.1), S (x.1.2), S (x.2.1), S (x.2.2)]) (b := w.heap.size) (o := 0) U1032 rfl sz1032 rfl (Blk.cells sc (i := 0) rfl) ?_);refine l_op (k_loadA (cs := [S (y.1.1), S (y.1.2), S (y.2.1), S (y.2.2)]) (b := aot.heap.size) (o := 0) U1032 rfl sz1032 rfl (Blk.cells aol (i := 0) rfl) ?_);refine BS2 (fun ao5 aoo ao6 ao1 => ?_);have sc := be aoo sc;have aol := be aoo aol;have aom := be aoo aom;have aon := be aoo aon;have r8 := xt r8 aoo;have ao7 := bz aoo;refine clb en1053 (hc := computeI_ok (l := [x, y]) (x := (qR (a * d' - c' * b) (b * d'), qR (c * b' - a' * d) (d * b'))) en1054 (Rw.of_own ao1) rfl (by simp) (fun z hz => by rcases List.mem_cons.1 hz with h | h; exact h ▸ hx; rw [List.mem_singleton.1 h]; exact hy) (fun W e => sub1_ok e1 e2 q1 q2 e3 e4 q3 q4 (aon.ext e) (sc.ext e) (aol.ext e) ((ht.ext r8).ext e)) (ht.ext r8)) (hk := ?_)
 rintro ao8 ao9 aoq rfl;have sc := be aoq.2 sc;have aol := be aoq.2 aol;have aom := be aoq.2 aom;have aon := be aoq.2 aon;have r8 := xt r8 aoq.2;refine go ?_;refine SA aom (fun apa aor ao2 => ?_);have sc := pb aor sc;have aol := pb aor aol;have aon := pb aor aon;have r8 := plw aor r8;have apb := psz aor;refine go ?_;refine f_out (v := .tuple #[.agg #[S ((qR (a * d' - c' * b) (b * d')).1), S ((qR (a * d' - c' * b) (b * d')).2), S ((qR (c * b' - a' * d) (d * b')).1), S ((qR (c * b' - a' * d) (d * b')).2)], .int .i64 (0)]) (res2 (r1 := .cell 4 29) (r2 := .tmp 5) rfl ?_ ?_) r8 rfl;refine res_cellA (t := 4) (cs := [S ((qR (a * d' - c' * b) (b * d')).1), S ((qR (a * d' - c' * b) (b * d')).2), S ((qR (c * b' - a' * d) (d * b')).1), S ((qR (c * b' - a' * d) (d * b')).2)]) (b := aow.heap.size) (o := 0) U1032 rfl sz1032 ?_ ?_;exact rfl;exact Blk.cells ao2 (i := 0) rfl;exact res_tmp (t := 5) (by exact rfl) _
end Go.Proofs.YtjijfnggomhpiaaGreatDoor
