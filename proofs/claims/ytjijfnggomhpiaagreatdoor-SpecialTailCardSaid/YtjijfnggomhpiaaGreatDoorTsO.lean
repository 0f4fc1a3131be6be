/- Part of the proof of a statement about the special functions. -/
import Derived.Test.YtjijfnggomhpiaaGreatDoorTtO
set_option linter.all false
namespace Go.Proofs.YtjijfnggomhpiaaGreatDoor
def rqK (S y1 y2 : Nat) (K : Nat → Nat → Bool) : Bool :=
  fz (Nat.mul y1 S) fun n => fz (Nat.pow 2 (Nat.succ (Nat.div (Nat.log2 n) 2))) fun t => nwK n (fun r => fz r fun r => fz (Nat.add r 150) fun q => cond (and (Nat.ble (Nat.mul r r) n) (Nat.ble (Nat.succ (Nat.mul y2 S)) (Nat.mul q q))) (K r q) false) 8 t
theorem rqK_ok {S y1 y2 : Nat} {K : Nat → Nat → Bool} (h : rqK S y1 y2 K = true) : ∃ r q, r * r ≤ y1 * S ∧ y2 * S < q * q ∧ K r q = true := by
  unfold rqK at h
  rw [fz_eq, fz_eq] at h
  obtain ⟨r, h⟩ := nwK_ok h
  rw [fz_eq, fz_eq] at h
  rcases cond_t h with ⟨h1, h2⟩ | ⟨_, h2⟩
  · simp only [Bool.and_eq_true, Nat.ble_eq] at h1
    exact ⟨r, _, h1.1, h1.2, h2⟩
  · cases h2
def xqK (S S1 p1 p2 : Nat) (K : Nat → Nat → Nat → Nat → Nat → Nat → Nat → Nat → Nat → Bool) (n d : Nat) : Bool :=
  fz (Nat.mul n S) fun u => fz (Nat.div (Nat.div u d) 2) fun y1 => fz (Nat.div (Nat.succ (Nat.div (Nat.add u (Nat.pred d)) d)) 2) fun y2 =>
    expK S S1 (fun e1 e2 => fz e1 fun e1 => fz e2 fun e2 => rqK S y1 y2 fun r1 r2 => fz (Nat.mul y2 2) fun Y2 => fz (Nat.div (Nat.mul e1 p1) S) fun o1 => fz (Nat.div (Nat.add (Nat.mul e2 p2) S1) S) fun o2 => K y1 y2 Y2 e1 e2 r1 r2 o1 o2) y1 y2
theorem xqK_ok {S S1 pl n d : Nat} {p : N2} {K : Nat → Nat → Nat → Nat → Nat → Nat → Nat → Nat → Nat → Bool} (hS : 0 < S) (hS1 : S1 = S - 1) (hd : 0 < d) (hp : rootP S (piN pl, piN pl + 1) = some p) (h : xqK S S1 p.1 p.2 K n d = true) :
    ∃ y1 y2 Y2 e1 e2 r1 r2 o1 o2, XR S pl n d y1 y2 Y2 e1 e2 r1 r2 o1 o2 ∧ K y1 y2 Y2 e1 e2 r1 r2 o1 o2 = true := by
  unfold xqK at h
  rw [fz_eq, fz_eq, fz_eq] at h
  have ey : (Nat.div (Nat.div (Nat.mul n S) d) 2, Nat.div (Nat.succ (Nat.div (Nat.add (Nat.mul n S) (Nat.pred d)) d)) 2) = yP S n d := by
    unfold yP byP ofP
    rw [upn_eq hd, upn_eq (b := 2) (by omega), Nat.mul_one, Nat.mul_one]; rfl
  obtain ⟨e, he, h⟩ := expK_ok hS hS1 h
  rw [fz_eq, fz_eq] at h
  obtain ⟨r, q, h1, h2, h⟩ := rqK_ok h
  rw [fz_eq, fz_eq, fz_eq] at h
  rw [ey] at he
  refine ⟨_, _, _, _, _, _, _, _, _, ⟨ey, rfl, he, h1, h2, fun c hc => ?_⟩, h⟩
  rw [hp] at hc; cases hc
  refine ⟨Nat.le_refl _, ?_⟩
  show upn (e.2 * p.2) S ≤ _
  rw [upn_eq hS, hS1]; exact Nat.le_refl _
def tqCk (p1 p2 c1 c2 n d : Nat) : Bool := hnK 10000000000000000000000000 9999999999999999999999999 c1 c2 (fun u1 u2 => stK 100000000000000000 u1 u2 fun g => fz (Nat.mul n n) fun n' => fz (Nat.mul d d) fun d' => xqK 10000000000000000000000000 9999999999999999999999999 p1 p2 (fun y1 y2 Y2 e1 e2 r1 r2 o1 o2 => fz (M25 n' d') fun M => cond (Nat.ble M 400)
  (frK 10000000000000000000000000 9999999999999999999999999 100000000000000000 y1 y2 Y2 e1 e2 r1 r2 o1 o2 1 M fun c => and (Nat.ble (Nat.mul 2 g) (Nat.succ c)) (and (Nat.ble c (Nat.add (Nat.mul 2 g) 2)) (and (Nat.ble g 50000000) (Nat.ble c 100000000)))) false) n' d') n d
theorem tqCk_ok {n d : Nat} (hn : 0 < n) (hn9 : n ≤ 10 ^ 6) (hd : 0 < d) (hd9 : d ≤ 50) (h6 : n ≤ 6 * d) (h : tqCk pqN.1 pqN.2 p2N.1 p2N.2 n d = true) (h50 : d * d ≤ 2500 * (n * n)) : TsR n d := by
  have eS : (10 : Nat) ^ 25 = 10000000000000000000000000 := by decide
  obtain ⟨u, hu, h⟩ := hnK_ok (by decide) (by decide) p2_root (by decide) hd h
  obtain ⟨g, g1, g2, h⟩ := stK_ok h
  rw [fz_eq, fz_eq] at h
  have hdd : 0 < d * d := Nat.mul_pos hd hd
  obtain ⟨y1, y2, Y2, e1, e2, r1, r2, o1, o2, hX, h⟩ := xqK_ok (pl := 25) (by decide) (by decide) hdd pq_root h
  rw [fz_eq] at h
  have hnn : n * n ≤ 36 * (d * d) := by
    have := Nat.mul_le_mul h6 h6
    have e : 6 * d * (6 * d) = 36 * (d * d) := by rw [Nat.mul_mul_mul_comm]
    omega
  have hn2 : n * n ≤ 10 ^ 6 * 10 ^ 6 := Nat.mul_le_mul hn9 hn9
  have hd2 : d * d ≤ 50 * 50 := Nat.mul_le_mul hd9 hd9
  rcases cond_t h with ⟨hM, h⟩ | ⟨_, h⟩
  · rw [Nat.ble_eq] at hM
    obtain ⟨c, hc, hF⟩ := frK_ok (by decide) (by decide) (by decide) (by decide) (by decide) hdd (show Nat.mul n n ≤ 100 * (d * d) by show n * n ≤ _; omega) h50 hX hM h
    simp only [Bool.and_eq_true, Nat.ble_eq] at hc
    obtain ⟨c1, c2, c3, c4⟩ := hc
    have m2 : Nat.mul 2 g = 2 * g := rfl
    refine ⟨g, c, c3, c4, by omega, by show c ≤ Nat.mul 2 g + 2; exact c2, ?_, ?_⟩
    · have eo : ofP S25 1 2 = (5000000000000000000000000, 5000000000000000000000000) := by decide +kernel
      refine ⟨zP (plP (ofP S25 1 2) u), ?_, ?_, Or.inl ?_, by omega⟩
      · show nrP (10 ^ 25) 25 (n : Int) d = _
        rw [eS]
        unfold nrP
        rw [show ((n : Int)).natAbs = n from rfl, hu, Option.map_some, if_neg (by omega)]
      · rw [eo, show tenI (25 - 8) = 100000000000000000 by decide]; show (50000000 + (g : Int)) * 100000000000000000 < (((5000000000000000000000000 + u.1 : Nat)) : Int); omega
      · rw [eo, show tenI (25 - 8) = 100000000000000000 by decide]; show (((5000000000000000000000000 + u.2 : Nat)) : Int) < (50000000 + (g : Int) + 1) * 100000000000000000; omega
    · have := frR_cel (c := 8) (by decide) (by decide) (by decide) (by decide) (Nat.mul_pos hn hn) (by omega) hdd (by omega) (by omega) (by decide) (by omega) hF
      rw [show tenI 8 = 100000000 by decide] at this
      exact this
  · cases h
def tqRow (d lo m : Nat) : Bool := allN (fun i => fz (Nat.add lo i) fun n => cond (Nat.beq (Nat.gcd n d) 1) (cond (Nat.ble (Nat.mul d d) (Nat.mul 2500 (Nat.mul n n))) (tqCk 17724538509055160272981674 17724538509055160272981675 25066282746310005024157652 25066282746310005024157653 n d) false) true) m
theorem tqRow_ok {d lo m n : Nat} (h : tqRow d lo m = true) (hl : lo < n) (hh : n ≤ lo + m) (hd : 0 < d) (hd50 : d ≤ 50) (h6 : n ≤ 6 * d) (hg : Nat.gcd n d = 1) : TsR n d := by
  unfold tqRow at h
  have h1 := allN_ok h (n - lo) (by omega) (by omega)
  rw [fz_eq, show Nat.add lo (n - lo) = n from by show lo + (n - lo) = n; omega] at h1
  rcases cond_t h1 with ⟨_, h2⟩ | ⟨h2, _⟩
  · rcases cond_t h2 with ⟨h3, h2⟩ | ⟨_, h2⟩
    · rw [Nat.ble_eq] at h3
      exact tqCk_ok (by omega) (by omega) hd hd50 h6 h2 h3
    · cases h2
  · rw [hg] at h2; cases h2
end Go.Proofs.YtjijfnggomhpiaaGreatDoor
