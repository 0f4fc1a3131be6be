/- Part of the proof of a statement about the special functions. -/
import Derived.Test.YteojhdahhaodoaaGreatDoorCardAToNmK
import Derived.Test.YteojhdahhaodoaaGreatDoorNmT1
import Derived.Test.YteojhdahhaodoaaGreatDoorNmT2
import Derived.Test.YteojhdahhaodoaaGreatDoorNmT3
import Derived.Test.YteojhdahhaodoaaGreatDoorNmT4
set_option linter.all false
namespace Go.Proofs.YteojhdahhaodoaaGreatDoor
open Go Go.Eng Go.RowKit
theorem red_neg {N D : Int} (hD : 0 < D) : redN (-N) D = -redN N D ∧ redD (-N) D = redD N D := by
  have h := red_uniq (a := redN (-N) D) (b := redD (-N) D) (c := -redN N D) (d := redD N D) (rq_pos hD) (rq_pos hD) (rq_gcd hD) (by rw [Int.neg_gcd]; exact rq_gcd hD) ?_
  · exact h
  · have h1 := rq_cross (n := -N) hD
    have h2 := rq_cross (n := N) hD
    have h3 : redN (-N) D * redD N D * D = -redN N D * redD (-N) D * D := by
      rw [show redN (-N) D * redD N D * D = redN (-N) D * D * redD N D by grind, h1, show -redN N D * redD (-N) D * D = -(redN N D * D) * redD (-N) D by grind, h2]
      grind
    exact Int.eq_of_mul_eq_mul_right (by omega) h3
theorem tab_all {pl : Nat} (h1 : 1 ≤ pl) (h2 : pl ≤ 12) : TabR pl := by
  rcases (by omega : pl = 1 ∨ pl = 2 ∨ pl = 3 ∨ pl = 4 ∨ pl = 5 ∨ pl = 6 ∨ pl = 7 ∨ pl = 8 ∨ pl = 9 ∨ pl = 10 ∨ pl = 11 ∨ pl = 12) with rfl | rfl | rfl | rfl | rfl | rfl | rfl | rfl | rfl | rfl | rfl | rfl
  · exact nmt1
  · exact nmt2
  · exact nmt3
  · exact nmt4
  · exact nmt5
  · exact nmt6
  · exact nmt7
  · exact nmt8
  · exact nmt9
  · exact nmt10
  · exact nmt11
  · exact nmt12
def NmC (pl : Nat) (N D f c : Int) : Prop :=
  (N = 0 ∧ f = flI 1 2 (tenI pl) ∧ c = clI 1 2 (tenI pl)) ∨ (8 * D ≤ N ∧ f = tenI pl - 1 ∧ c = tenI pl) ∨ (N ≤ -8 * D ∧ f = 0 ∧ c = 1) ∨ (N ≠ 0 ∧ -8 * D < N ∧ N < 8 * D ∧ FindR pl (nrmBd pl N D) f c)
theorem NmC.call {pl : Nat} {N D f c : Int} (h : NmC pl N D f c) (h1 : 0 < D) (h50 : D ≤ 50) (hlo : -(9 * D) ≤ N) (hhi : N ≤ 9 * D) (hp : pl ≤ 12) : NrmC N D pl f c := by
  intro w ht
  rcases h with ⟨h0, rfl, rfl⟩ | ⟨h0, rfl, rfl⟩ | ⟨h0, rfl, rfl⟩ | ⟨h0, h2, h3, hF⟩
  · exact normal_z h1 (by omega) h0 hp ht
  · exact normal_hi (by omega) h1 (by omega) h0 (by omega) hp ht
  · exact normal_lo (by omega) h1 (by omega) h0 (by omega) hp ht
  · exact normal_q (by omega) h1 (by omega) h0 h2 h3 hp hF ht
theorem ten_even {pl : Nat} (h : 1 ≤ pl) : tenI pl = 2 * ((10 ^ pl / 2 : Nat) : Int) := by
  obtain ⟨k, rfl⟩ : ∃ k, pl = k + 1 := ⟨pl - 1, by omega⟩
  unfold tenI
  rw [Nat.pow_succ]
  omega
theorem half_fl {pl : Nat} (h : 1 ≤ pl) : flI 1 2 (tenI pl) = ((10 ^ pl / 2 : Nat) : Int) ∧ clI 1 2 (tenI pl) = ((10 ^ pl / 2 : Nat) : Int) := by
  rw [ten_even h]
  unfold flI clI
  rw [Int.one_mul, Int.mul_ediv_cancel_left _ (by decide), Int.mul_emod_right, if_pos rfl]
  exact ⟨rfl, rfl⟩
structure InP (pl : Nat) (N D : Int) (f c : Nat) : Prop where
  pos : FindR pl (nrmBd pl N D) (f : Int) (c : Int)
  neg : FindR pl (nrmBd pl (-N) D) (tenI pl - c) (tenI pl - f)
  hf : 10 ^ pl / 2 ≤ f
  hc : 10 ^ pl / 2 ≤ c
  f1 : f + 1 ≤ 10 ^ pl
  c1 : c ≤ 10 ^ pl
theorem in_all {pl : Nat} (hT : TabR pl) {N D : Int} (h1 : 0 < D) (h50 : D ≤ 50) (h0 : 0 < N) (h8 : N < 8 * D) : ∃ f c, InP pl N D f c ∧ ∀ M E : Int, 0 < E → E ≤ 50 → 0 < M → M < 8 * E → N * E < M * D → ∃ g k, InP pl M E g k ∧ f ≤ g ∧ c ≤ k := by
  obtain ⟨t, ⟨_, _, hs⟩, ha, hb, hl1, hl2⟩ := hT
  have key : ∀ {N D : Int}, 0 < D → D ≤ 50 → 0 < N → N < 8 * D → InS ⟨1, 50, 1, 49, 10 ^ pl / 2, 10 ^ pl / 2⟩ t (redN N D).natAbs (redD N D).toNat ∧ 0 < redN N D ∧
      ∀ f c, PosR pl (redN N D).natAbs (redD N D).toNat f c → 10 ^ pl / 2 ≤ f → 10 ^ pl / 2 ≤ c → f ≤ t.lf → c ≤ t.lc → InP pl N D f c := by
    intro N D h1 h50 h0 h8
    have hn := rq_n (n := N) h1
    have hd := rq_d (n := N) h1
    have hg := gcd_pos (n := N) h1
    have hb' := rq_pos (n := N) h1
    have hb50 := rq_le (n := N) h1
    have hgc := rq_gcd (n := N) h1
    obtain ⟨en, ed⟩ := red_neg (N := N) h1
    have hX : ∀ k, nrmBd pl N D k = nrB pl (redN N D) (redD N D).toNat k := fun _ => rfl
    have hY : ∀ k, nrmBd pl (-N) D k = nrB pl (-redN N D) (redD N D).toNat k := fun k => by unfold nrmBd; rw [en, ed]; rfl
    have hXf : nrmBd pl N D = nrB pl (redN N D) (redD N D).toNat := funext hX
    have hYf : nrmBd pl (-N) D = nrB pl (-redN N D) (redD N D).toNat := funext hY
    have ha0 : 0 < redN N D := by
      rcases Int.lt_trichotomy (redN N D) 0 with x | x | x
      · have := Int.mul_neg_of_neg_of_pos x hg; omega
      · rw [x, Int.zero_mul] at hn; omega
      · exact x
    have hlt : redN N D < 8 * redD N D := by
      refine Int.lt_of_mul_lt_mul_right (a := ((Int.gcd N D : Nat) : Int)) ?_ (Int.le_of_lt hg)
      rw [hn, Int.mul_assoc, hd]; exact h8
    have eN : (((redN N D).natAbs : Nat) : Int) = redN N D := by omega
    have hg' : Nat.gcd (redN N D).natAbs (redD N D).toNat = 1 := by
      have : (redD N D).toNat = (redD N D).natAbs := by omega
      rw [this]; exact hgc
    refine ⟨⟨by omega, by omega, hg', by simp only; omega, ?_⟩, ha0, fun f c hP hf hc hf1 hc1 => ⟨?_, ?_, hf, hc, by omega, by omega⟩⟩
    · rw [ha]
      have h9 : (redN N D).natAbs < 8 * (redD N D).toNat := by omega
      rw [show 8 * t.b * (redD N D).toNat = 8 * (redD N D).toNat * t.b by grind]
      exact Nat.mul_lt_mul_of_pos_right h9 hb
    · obtain ⟨_, p1, _⟩ := hP
      rw [hXf]; rw [eN] at p1; exact p1
    · obtain ⟨_, _, p2⟩ := hP
      rw [hYf]; rw [eN] at p2; exact p2
  obtain ⟨i1, p1, q1⟩ := key h1 h50 h0 h8
  obtain ⟨f, c, hP, b1, b2, b3, b4, hmono⟩ := hs _ _ i1
  refine ⟨f, c, q1 f c hP b1 b2 b3 b4, fun M E hE hE50 hM hM8 hlt => ?_⟩
  obtain ⟨i2, p2, q2⟩ := key hE hE50 hM hM8
  have hlt2 : (redN N D).natAbs * (redD M E).toNat < (redN M E).natAbs * (redD N D).toNat := by
    have hn1 := rq_n (n := N) h1
    have hd1 := rq_d (n := N) h1
    have hg1 := gcd_pos (n := N) h1
    have hn2 := rq_n (n := M) hE
    have hd2 := rq_d (n := M) hE
    have hg2 := gcd_pos (n := M) hE
    have hb1 := rq_pos (n := N) h1
    have hb2 := rq_pos (n := M) hE
    have h3 : redN N D * redD M E < redN M E * redD N D := by
      generalize redN N D = a at *
      generalize redD N D = b at *
      generalize redN M E = a' at *
      generalize redD M E = b' at *
      generalize ((Int.gcd N D : Nat) : Int) = g at *
      generalize ((Int.gcd M E : Nat) : Int) = g' at *
      subst hn1 hd1 hn2 hd2
      have hgg : 0 < g * g' := Int.mul_pos hg1 hg2
      refine Int.lt_of_mul_lt_mul_right (a := g * g') ?_ (Int.le_of_lt hgg)
      rw [show a * b' * (g * g') = a * g * (b' * g') by grind, show a' * b * (g * g') = a' * g' * (b * g) by grind]
      exact hlt
    have e1 : (((redN N D).natAbs * (redD M E).toNat : Nat) : Int) = redN N D * redD M E := by
      rw [Int.natCast_mul, show (((redN N D).natAbs : Nat) : Int) = redN N D by omega, show (((redD M E).toNat : Nat) : Int) = redD M E by omega]
    have e2 : (((redN M E).natAbs * (redD N D).toNat : Nat) : Int) = redN M E * redD N D := by
      rw [Int.natCast_mul, show (((redN M E).natAbs : Nat) : Int) = redN M E by omega, show (((redD N D).toNat : Nat) : Int) = redD N D by omega]
    omega
  obtain ⟨s1, _, hs2⟩ := hs _ _ i2
  obtain ⟨g', k', hP', l1, l2⟩ := hmono _ _ i2 hlt2
  obtain ⟨g, k', hQ, c1, c2, c3, c4, _⟩ := hs _ _ i2
  rename_i gg kk
  have hu := hP'.2.1.uniq hQ.2.1
  exact ⟨g, k', q2 g k' hQ c1 c2 c3 c4, by omega, by omega⟩
theorem InP.uniq {pl : Nat} {N D : Int} {f c g k : Nat} (h : InP pl N D f c) (h' : InP pl N D g k) : f = g ∧ c = k := by
  have := h.pos.uniq h'.pos; omega
theorem nm_all {pl : Nat} (h1 : 1 ≤ pl) (h12 : pl ≤ 12) {N D : Int} (hD : 0 < D) (h50 : D ≤ 50) : ∃ f c, NmC pl N D f c ∧ NmC pl (-N) D (tenI pl - c) (tenI pl - f) ∧ 0 ≤ f ∧ f ≤ c ∧ c ≤ tenI pl ∧
    (N = 0 → f = ((10 ^ pl / 2 : Nat) : Int) ∧ c = ((10 ^ pl / 2 : Nat) : Int)) ∧ (8 * D ≤ N → f = tenI pl - 1 ∧ c = tenI pl) ∧ (N ≤ -8 * D → f = 0 ∧ c = 1) ∧
    (0 < N → N < 8 * D → ∃ f' c' : Nat, InP pl N D f' c' ∧ f = f' ∧ c = c') ∧ (N < 0 → -8 * D < N → ∃ f' c' : Nat, InP pl (-N) D f' c' ∧ f = tenI pl - c' ∧ c = tenI pl - f') := by
  have hT := ten_pos pl
  have hE := ten_even h1
  obtain ⟨hh1, hh2⟩ := half_fl h1
  have hP : ((10 ^ pl : Nat) : Int) = tenI pl := rfl
  by_cases z : N = 0
  · refine ⟨flI 1 2 (tenI pl), clI 1 2 (tenI pl), Or.inl ⟨z, rfl, rfl⟩, Or.inl ⟨by omega, by omega, by omega⟩, by omega, by omega, by omega, fun _ => ⟨hh1, hh2⟩, fun h => by omega, fun h => by omega, fun h => by omega, fun h => by omega⟩
  by_cases hi : 8 * D ≤ N
  · exact ⟨tenI pl - 1, tenI pl, Or.inr (Or.inl ⟨hi, rfl, rfl⟩), Or.inr (Or.inr (Or.inl ⟨by omega, by omega, by omega⟩)), by omega, by omega, by omega, fun h => by omega, fun _ => ⟨rfl, rfl⟩, fun h => by omega, fun h => by omega, fun h => by omega⟩
  by_cases lo : N ≤ -8 * D
  · exact ⟨0, 1, Or.inr (Or.inr (Or.inl ⟨lo, rfl, rfl⟩)), Or.inr (Or.inl ⟨by omega, by omega, by omega⟩), by omega, by omega, by omega, fun h => by omega, fun h => by omega, fun _ => ⟨rfl, rfl⟩, fun h => by omega, fun h => by omega⟩
  by_cases s : 0 < N
  · obtain ⟨f, c, hI, _⟩ := in_all (tab_all h1 h12) hD h50 s (by omega)
    have hfc : (f : Int) ≤ c := by
      obtain ⟨_, ⟨r, _, w⟩ | ⟨r, r2, f1, c1, _, _, _, _, w⟩⟩ := hI.pos
      · exact w.fc
      · exact w.fc
    have f1 := hI.f1
    have c1 := hI.c1
    refine ⟨f, c, Or.inr (Or.inr (Or.inr ⟨z, by omega, by omega, hI.pos⟩)), Or.inr (Or.inr (Or.inr ⟨by omega, by omega, by omega, hI.neg⟩)), by omega, by omega, by omega, fun h => by omega, fun h => by omega, fun h => by omega, fun _ _ => ⟨f, c, hI, rfl, rfl⟩, fun h => by omega⟩
  · obtain ⟨f, c, hI, _⟩ := in_all (tab_all h1 h12) (N := -N) hD h50 (by omega) (by omega)
    have hfc : (f : Int) ≤ c := by
      obtain ⟨_, ⟨r, _, w⟩ | ⟨r, r2, f1, c1, _, _, _, _, w⟩⟩ := hI.pos
      · exact w.fc
      · exact w.fc
    have f1 := hI.f1
    have c1 := hI.c1
    have hn := hI.neg
    rw [Int.neg_neg] at hn
    have hp := hI.pos
    refine ⟨tenI pl - c, tenI pl - f, Or.inr (Or.inr (Or.inr ⟨z, by omega, by omega, hn⟩)), Or.inr (Or.inr (Or.inr ⟨by omega, by omega, by omega, by rw [show tenI pl - (tenI pl - (f : Int)) = f by omega, show tenI pl - (tenI pl - (c : Int)) = c by omega]; exact hp⟩)), by omega, by omega, by omega, fun h => by omega, fun h => by omega, fun h => by omega, fun h => by omega, fun _ _ => ⟨f, c, hI, rfl, rfl⟩⟩
theorem in_mono {pl : Nat} (h1 : 1 ≤ pl) (h12 : pl ≤ 12) {N D M E : Int} {f c g k : Nat} (hD : 0 < D) (h50 : D ≤ 50) (h0 : 0 < N) (h8 : N < 8 * D) (hE : 0 < E) (hE50 : E ≤ 50) (hM : 0 < M) (hM8 : M < 8 * E) (hlt : N * E < M * D) (hx : InP pl N D f c) (hy : InP pl M E g k) : f ≤ g ∧ c ≤ k := by
  obtain ⟨f', c', hI, hm⟩ := in_all (tab_all h1 h12) hD h50 h0 h8
  obtain ⟨g', k', hJ, l1, l2⟩ := hm M E hE hE50 hM hM8 hlt
  have := hI.uniq hx
  have := hJ.uniq hy
  omega
theorem specialSymmetric_law {x0 x1 y0 y1 z : Int} {w : World} (hx0 : In64 x0) (hx1 : In64 x1) (hy0 : In64 y0) (hy1 : In64 y1) (hz : In64 z) (ht : Tb w) :
    Calls Tryz.prog 5 #[.agg #[.int .i64 x0, .int .i64 x1], .agg #[.int .i64 y0, .int .i64 y1], .int .i64 z] w (Ret w fun v _ => v = .bool true) := by
  have bd := pick_bd x1 50 (by decide)
  have bd2 := pick_bd y1 50 (by decide)
  have bz := pick_bd z 12 (by decide)
  have bn := pick_bd x0 (2 * (9 * (1 + pickI x1 50)) + 1) (by omega)
  have bn2 := pick_bd y0 (2 * (9 * (1 + pickI y1 50)) + 1) (by omega)
  obtain ⟨pl, hpl⟩ : ∃ pl : Nat, 1 + pickI z 12 = ((pl : Nat) : Int) := ⟨(1 + pickI z 12).toNat, by omega⟩
  have p1 : 1 ≤ pl := by omega
  have p12 : pl ≤ 12 := by omega
  generalize hN : pickI x0 (2 * (9 * (1 + pickI x1 50)) + 1) - 9 * (1 + pickI x1 50) = N
  generalize hM : pickI y0 (2 * (9 * (1 + pickI y1 50)) + 1) - 9 * (1 + pickI y1 50) = M
  generalize hD : 1 + pickI x1 50 = D at *
  generalize hE : 1 + pickI y1 50 = E at *
  obtain ⟨f, c, a1, a2, a3, a4, a5, a6, a7, a8, a9, a10⟩ := nm_all p1 p12 (N := N) (D := D) (by omega) (by omega)
  obtain ⟨g, k, b1, b2, b3, b4, b5, b6, b7, b8, b9, b10⟩ := nm_all p1 p12 (N := M) (D := E) (by omega) (by omega)
  have c1 := a1.call (by omega) (by omega) (by omega) (by omega) p12
  have c2 := a2.call (by omega) (by omega) (by omega) (by omega) p12
  have c3 := b1.call (by omega) (by omega) (by omega) (by omega) p12
  rw [show -N = 0 * D - N * 1 by omega, show NrmC (0 * D - N * 1) D = NrmC (0 * D - N * 1) (1 * D) by rw [Int.one_mul]] at c2
  have hT : tenI pl ≤ 10 ^ 30 := ten_le (by omega)
  have hE2 := ten_even p1
  have hP : ((10 ^ pl : Nat) : Int) = tenI pl := rfl
  have hm : N * E < M * D → f ≤ g ∧ c ≤ k := by
    intro hlt
    have hD0 : 0 < D := by omega
    have hE0 : 0 < E := by omega
    have o1 : 8 * D ≤ N → 8 * E ≤ M := fun h => by
      rcases Int.lt_or_le M (8 * E) with x | x
      · have y1 := Int.mul_le_mul_of_nonneg_right h (Int.le_of_lt hE0)
        have y2 := Int.mul_lt_mul_of_pos_right x hD0
        rw [show 8 * E * D = 8 * D * E by grind] at y2
        omega
      · exact x
    have o2 : M ≤ -8 * E → N ≤ -8 * D := fun h => by
      rcases Int.lt_or_le (-8 * D) N with x | x
      · have y1 := Int.mul_le_mul_of_nonneg_right h (Int.le_of_lt hD0)
        have y2 := Int.mul_lt_mul_of_pos_right x hE0
        rw [show -8 * E * D = -8 * D * E by grind] at y1
        omega
      · exact x
    have o3 : 0 ≤ N → 0 < M := fun h => by
      rcases Int.lt_or_le 0 M with x | x
      · exact x
      · have y1 := Int.mul_nonneg h (Int.le_of_lt hE0)
        have y2 := Int.mul_nonneg (show 0 ≤ -M by omega) (Int.le_of_lt hD0)
        rw [Int.neg_mul] at y2
        omega
    by_cases n1 : 8 * D ≤ N
    · have := a7 n1; have := b7 (o1 n1); omega
    by_cases n2 : N ≤ -8 * D
    · have h2 := a8 n2
      by_cases m2 : M ≤ -8 * E
      · have := b8 m2; omega
      by_cases m1 : 8 * E ≤ M
      · have := b7 m1; omega
      by_cases m0 : M = 0
      · have := b6 m0; omega
      by_cases m3 : 0 < M
      · obtain ⟨f', c', i, e1, e2⟩ := b9 m3 (by omega)
        have := i.hf; have := i.hc; omega
      · obtain ⟨f', c', i, e1, e2⟩ := b10 (by omega) (by omega)
        have := i.f1; have := i.c1; omega
    have m2 : ¬ M ≤ -8 * E := fun h => n2 (o2 h)
    by_cases n0 : N = 0
    · have h0 := a6 n0
      have m3 := o3 (by omega)
      by_cases m1 : 8 * E ≤ M
      · have := b7 m1; omega
      · obtain ⟨f', c', i, e1, e2⟩ := b9 m3 (by omega)
        have := i.hf; have := i.hc; omega
    by_cases n3 : 0 < N
    · obtain ⟨f', c', i, e1, e2⟩ := a9 n3 (by omega)
      have m3 := o3 (by omega)
      by_cases m1 : 8 * E ≤ M
      · have := b7 m1; have := i.f1; have := i.c1; omega
      · obtain ⟨g', k', j, e3, e4⟩ := b9 m3 (by omega)
        have := in_mono p1 p12 hD0 (by omega) n3 (by omega) hE0 (by omega) m3 (by omega) hlt i j
        omega
    · obtain ⟨f', c', i, e1, e2⟩ := a10 (by omega) (by omega)
      have i1 := i.hf
      have i2 := i.hc
      by_cases m1 : 8 * E ≤ M
      · have := b7 m1; omega
      by_cases m0 : M = 0
      · have := b6 m0; omega
      by_cases m3 : 0 < M
      · obtain ⟨g', k', j, e3, e4⟩ := b9 m3 (by omega)
        have := j.hf; have := j.hc; omega
      · obtain ⟨g', k', j, e3, e4⟩ := b10 (by omega) (by omega)
        have := in_mono p1 p12 (N := -M) (D := E) (M := -N) (E := D) hE0 (by omega) (by omega) (by omega) hD0 (by omega) (by omega) (by omega) (by rw [Int.neg_mul, Int.neg_mul]; omega) j i
        omega
  by_cases hlt : N * E < M * D
  · exact sym_lt hx0 hx1 hy0 hy1 hz hD hN hE hM hpl c1 c2 c3 a3 a4 a5 (by omega) (by omega) hm hlt ht
  · exact sym_ge hx0 hx1 hy0 hy1 hz hD hN hE hM hpl c1 c2 c3 a3 a4 a5 (by omega) (by omega) hm hlt ht
end Go.Proofs.YteojhdahhaodoaaGreatDoor
