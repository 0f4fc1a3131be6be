/- Part of the proof that all functions of the layer agree with the reference implementation. -/
import Derived.Test.YtepcnphmfbbhiaaGreatDoorLaGToLin33
set_option linter.all false
set_option linter.all false
namespace Go.Proofs.YtepcnphmfbbhiaaGreatDoor
open Go Go.Eng Go.RowKit La
def mrL (k : Nat) (L : Rows) : Rows := fun i => (L (i + 1)).take k ++ (L (i + 1)).drop (k + 1)
def leibF (g : Rows → Option R) (L : Rows) : Nat → Nat → R → Option R
  | 0, _, s => some s
  | f + 1, k, s => match g (mrL k L) with
    | none => none
    | some p => match mulR (rAt (L 0) k) p with
      | none => none
      | some q => match (if k % 2 = 0 then addR s q else subR s q) with
        | none => none
        | some s' => leibF g L f (k + 1) s'
def leibS : Nat → Rows → Option R
  | 0, _ => some (frI 1 1)
  | n + 1, L => leibF (leibS n) L (n + 1) 0 z0
theorem leibF_step {g : Rows → Option R} {L : Rows} {N k : Nat} {s q : R} (hk : k < N) (h : leibF g L (N - k) k s = some q) :
    ∃ p q2 s2, g (mrL k L) = some p ∧ mulR (rAt (L 0) k) p = some q2 ∧ (if k % 2 = 0 then addR s q2 else subR s q2) = some s2 ∧ leibF g L (N - (k + 1)) (k + 1) s2 = some q := by
  rw [sub1 hk] at h
  unfold leibF at h
  cases h1 : g (mrL k L) with
  | none => rw [h1] at h; cases h
  | some p =>
    rw [h1] at h; dsimp only at h
    cases h2 : mulR (rAt (L 0) k) p with
    | none => rw [h2] at h; cases h
    | some q2 =>
      rw [h2] at h; dsimp only at h
      cases h3 : (if k % 2 = 0 then addR s q2 else subR s q2) with
      | none => rw [h3] at h; cases h
      | some s2 => rw [h3] at h; exact ⟨p, q2, s2, rfl, h2, h3, h⟩
theorem leibF_end {g : Rows → Option R} {L : Rows} {N k : Nat} {s q : R} (hk : ¬ k < N) (h : leibF g L (N - k) k s = some q) : s = q := by
  rw [show N - k = 0 by omega] at h; exact Option.some.inj h
theorem leib_even {k : Nat} {a b : Option R} {s : R} (h : (if k % 2 = 0 then a else b) = some s) (e : k % 2 = 0) : a = some s := by rwa [if_pos e] at h
theorem leib_odd {k : Nat} {a b : Option R} {s : R} (h : (if k % 2 = 0 then a else b) = some s) (e : ¬ k % 2 = 0) : b = some s := by rwa [if_neg e] at h
theorem rAt_take2 {l : List R} {k j : Nat} (h : j < k) : rAt (l.take k) j = rAt l j := by unfold rAt; rw [List.getD, List.getD, List.getElem?_take_of_lt h]
theorem mrL_at {n k : Nat} {L : Rows} (ok : OkL (n + 1) (n + 1) L) (hk : k < n + 1) {i c : Nat} (hi : i < n) : rAt (mrL k L i) c = rAt (L (i + 1)) (sk k c) := by
  have hl := (ok (i + 1) (by omega)).1
  unfold mrL sk
  by_cases e : c < k
  · rw [rAt_appL (by rw [List.length_take]; omega), rAt_take2 e, if_pos e]
  · rw [rAt_appR (by rw [List.length_take]; omega), rAt_drop, if_neg e, List.length_take]
    congr 1; omega
theorem mrL_ok {n k : Nat} {L : Rows} (ok : OkL (n + 1) (n + 1) L) (hk : k < n + 1) : OkL n n (mrL k L) := fun i hi => by
  have hl := (ok (i + 1) (by omega)).1
  refine ⟨by unfold mrL; rw [List.length_append, List.length_take, List.length_drop]; omega, fun c hc => ?_⟩
  rw [mrL_at ok hk hi]
  exact (ok (i + 1) (by omega)).2 _ (sk_lt hc)
theorem leibF_val {g : Rows → Option R} {L : Rows} {N M D : Nat} {t : Int} {z : Nat → Int} (ht : t ≠ 0) (htD : t.natAbs ≤ D) (h1 : (N * M) * D + M * D < T200) (h2 : D * D < T200)
    (hg : ∀ k, k < N → ∃ p q, g (mrL k L) = some p ∧ mulR (rAt (L 0) k) p = some q ∧ okR q = true ∧ qv q = (z k : Rat) / (t : Rat) ∧ (z k).natAbs ≤ M) :
    ∀ (f k : Nat) (s : R) (Z : Int), k + f = N → okR s = true → qv s = (Z : Rat) / (t : Rat) → Z.natAbs ≤ k * M →
      ∃ q, leibF g L f k s = some q ∧ okR q = true ∧ qv q = qv s + sm f (fun j => sg (k + j) * ((z (k + j) : Rat) / (t : Rat)))
  | 0, k, s, Z, hk, hs, hq, hZ => ⟨s, rfl, hs, by simp only [sm]; grind⟩
  | f + 1, k, s, Z, hk, hs, hq, hZ => by
    obtain ⟨p, q, e1, e2, ok, hv, hb⟩ := hg k (by omega)
    have bs := Bq.of hs ht hq (Nat.le_trans hZ (Nat.mul_le_mul_right M (by omega : k ≤ N))) htD
    have bq := Bq.of ok ht hv hb htD
    have qt := rat_ne ht
    have key : ∃ s2, (if k % 2 = 0 then addR s q else subR s q) = some s2 ∧ okR s2 = true ∧ qv s2 = qv s + sg k * ((z k : Rat) / (t : Rat)) := by
      unfold sg
      by_cases e : k % 2 = 0
      · obtain ⟨s2, a1, a2, a3⟩ := addR_val bs bq (by omega) h2
        exact ⟨s2, by rw [if_pos e]; exact a1, a2, by rw [a3, if_pos e, hq]; grind⟩
      · obtain ⟨s2, a1, a2, a3⟩ := subR_val bs bq (by omega) h2
        exact ⟨s2, by rw [if_neg e]; exact a1, a2, by rw [a3, if_neg e, hq]; grind⟩
    obtain ⟨s2, a1, a2, a3⟩ := key
    have hsg : ∃ w : Int, sg k * ((z k : Rat) / (t : Rat)) = (w : Rat) / (t : Rat) ∧ w.natAbs ≤ M := by
      unfold sg
      by_cases e : k % 2 = 0
      · exact ⟨z k, by rw [if_pos e]; grind, hb⟩
      · exact ⟨- z k, by rw [if_neg e, Rat.intCast_neg]; grind, by rw [Int.natAbs_neg]; exact hb⟩
    obtain ⟨w, w1, w2⟩ := hsg
    obtain ⟨r, r1, r2, r3⟩ := leibF_val ht htD h1 h2 hg f (k + 1) s2 (Z + w) (by omega) a2 (by rw [a3, hq, w1, Rat.intCast_add]; grind) (by rw [Nat.add_mul, Nat.one_mul]; omega)
    refine ⟨r, by rw [leibF, e1]; dsimp only; rw [e2]; dsimp only; rw [a1]; exact r1, r2, ?_⟩
    rw [r3, a3, sm_first, Nat.add_zero, sm_congr (f := fun j => sg (k + 1 + j) * ((z (k + 1 + j) : Rat) / (t : Rat))) (g := fun j => sg (k + (j + 1)) * ((z (k + (j + 1)) : Rat) / (t : Rat))) (fun j _ => by rw [show k + 1 + j = k + (j + 1) by omega])]
    grind
theorem frI11 : frI 1 1 = o1 := by decide +kernel
theorem leib_val : ∀ (n : Nat), n ≤ 4 → ∀ L : Rows, OkL n n L → RepC n n L 48 6 → ∃ q, leibS n L = some q ∧ okR q = true ∧ qv q = detR n (Q L)
  | 0, _, _, _, _ => ⟨frI 1 1, rfl, by rw [frI11]; exact oko, by rw [frI11, qv_o1]; rfl⟩
  | n + 1, hn, L, ok, hr => by
    obtain ⟨U, hU⟩ := hr
    have hminor : ∀ k, k < n + 1 → OkL n n (mrL k L) ∧ (∀ i, i < n → ∀ c, c < n → Q (mrL k L) i c = mr k (Q L) i c) ∧ RepC n n (mrL k L) 48 6 := fun k hk => by
      have hq : ∀ i, i < n → ∀ c, c < n → Q (mrL k L) i c = mr k (Q L) i c := fun i hi c _ => by unfold Q mr; rw [mrL_at ok hk hi]
      exact ⟨mrL_ok ok hk, hq, fun i c => U (i + 1) (sk k c), fun i hi c hc => by rw [hq i hi c hc]; exact hU (i + 1) (by omega) (sk k c) (sk_lt hc)⟩
    have hfac : fac n * 48 ^ n ≤ 130000000 := by
      have : n = 0 ∨ n = 1 ∨ n = 2 ∨ n = 3 := by omega
      rcases this with rfl | rfl | rfl | rfl <;> decide
    have hpow : ((6 : Int) ^ n).natAbs ≤ 1296 := by
      have : n = 0 ∨ n = 1 ∨ n = 2 ∨ n = 3 := by omega
      rcases this with rfl | rfl | rfl | rfl <;> decide
    have h6 := ipow_ne (by decide : (6 : Int) ≠ 0) n
    have h6q := rat_ne h6
    have hz : ∀ k, ∃ z : Int, k < n + 1 → detR n (mr k (Q L)) = (z : Rat) / (((6 : Int) ^ n : Int) : Rat) ∧ z.natAbs ≤ 130000000 := fun k => by
      by_cases hk : k < n + 1
      · obtain ⟨z, h1, h2⟩ := det_frac (A := mr k (Q L)) (U := fun i c => U (i + 1) (sk k c)) (N := fun _ => 48) (by decide : (6 : Int) ≠ 0) (fun i hi c hc => hU (i + 1) (by omega) (sk k c) (sk_lt hc))
        rw [pN_const] at h2
        exact ⟨z, fun _ => ⟨by rw [← det_row]; exact h1, by omega⟩⟩
      · exact ⟨0, fun h => absurd h hk⟩
    let z : Nat → Int := fun k => (hz k).choose
    have hzs : ∀ k, k < n + 1 → detR n (mr k (Q L)) = (z k : Rat) / (((6 : Int) ^ n : Int) : Rat) ∧ (z k).natAbs ≤ 130000000 := fun k hk => (hz k).choose_spec hk
    have ht : (6 : Int) * 6 ^ n ≠ 0 := fun e => by rcases Int.mul_eq_zero.1 e with e | e <;> omega
    have htq := rat_ne ht
    obtain ⟨q, e, okq, hv⟩ := leibF_val (g := leibS n) (L := L) (N := n + 1) (M := 48 * 130000000) (D := 6 * 1296) (t := 6 * 6 ^ n) (z := fun k => U 0 k * z k) ht (by rw [Int.natAbs_mul]; exact Nat.mul_le_mul_left 6 hpow)
      (Nat.lt_of_le_of_lt (Nat.add_le_add_right (Nat.mul_le_mul_right _ (Nat.mul_le_mul_right _ (by omega : n + 1 ≤ 4))) _) (by decide +kernel)) (by decide +kernel)
      (fun k hk => by
        obtain ⟨ok1, hq1, r1⟩ := hminor k hk
        obtain ⟨p, e1, okp, hp⟩ := leib_val n (by omega) (mrL k L) ok1 r1
        have hp2 : qv p = (z k : Rat) / (((6 : Int) ^ n : Int) : Rat) := by rw [hp, detR_congr (fun i hi c hc => hq1 i hi c hc)]; exact (hzs k hk).1
        have bp := Bq.of okp h6 hp2 (hzs k hk).2 hpow
        obtain ⟨u1, u2⟩ := hU 0 (by omega) k hk
        have ba := Bq.of ((ok 0 (by omega)).2 k hk) (by decide : (6 : Int) ≠ 0) u1 u2 (by decide : (6 : Int).natAbs ≤ 6)
        obtain ⟨y, ey, oky, hy⟩ := mulR_val ba bp (by decide +kernel) (by decide +kernel)
        refine ⟨p, y, e1, ey, oky, ?_, by rw [Int.natAbs_mul]; exact Nat.mul_le_mul u2 (hzs k hk).2⟩
        rw [hy, Rat.intCast_mul, Rat.intCast_mul]; grind) (n + 1) 0 z0 0 (by omega) okz (by rw [qv_z0]; simp; grind) (by simp)
    refine ⟨q, e, okq, ?_⟩
    rw [hv, qv_z0, detR]
    rw [sm_congr (g := fun k => sg k * Q L 0 k * detR n (mr k (Q L))) (fun k hk => by
      rw [Nat.zero_add, (hzs k hk).1, (hU 0 (by omega) k hk).1, Rat.intCast_mul, Rat.intCast_mul]; grind)]
    grind
theorem determinant_law {n : Nat} {A : Rows} (hn : 1 ≤ n) (hn4 : n ≤ 4) (hA : MakeR n n A) : ∃ d r, detS n A = some d ∧ okR d = true ∧ rankS n A = some r ∧ r ≤ n ∧ (d = z0 ↔ r < n) ∧ leibS n A = some d ∧ OkL n n A := by
  obtain ⟨ok, rA⟩ := make_rep hA
  obtain ⟨d, r, h1, h2, h3, h4, h5, h6, _⟩ := det_law hn hn4 hA
  obtain ⟨q, e, okq, hq⟩ := leib_val n hn4 A ok rA
  have : q = d := qv_inj okq h2 (by rw [hq, h3, det_row])
  exact ⟨d, r, h1, h2, h4, h5, h6, by rw [e, this], ok⟩
end Go.Proofs.YtepcnphmfbbhiaaGreatDoor
