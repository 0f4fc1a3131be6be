/- Part of the proof of a statement about decisions. -/
import Derived.Test.YtonigegpknhdnaaGreatDoorRi2ToRi8
import Derived.Test.YtonigegpknhdnaaGreatDoorSp16ToRi1
import Derived.Test.YtonigegpknhdnaaGreatDoorTie
import Derived.Test.YtonigegpknhdnaaGreatDoorCards
import Derived.ProofKit
import Derived.OpenShut
import Derived.LaidMore
import Derived.Lay
import Derived.SevenTiedAt
import Derived.Stop.Joined
import Derived.Deep.SlicePairs
import Derived.Deep.Frames
import Derived.Deep.Onto
import Derived.WideKeyArgs
import Derived.SizedLaws
import Derived.Test.YtonigegpknhdnaaGreatDoorEngPToEngH
set_option linter.all false
namespace Go.Proofs.YtonigegpknhdnaaGreatDoor
open Go Go.Eng Go.RowKit
def NmC (pl : Nat) (N D f c : Int) : Prop :=
  (N = 0 ∧ f = flI 1 2 (tenI pl) ∧ c = clI 1 2 (tenI pl)) ∨ (8 * D ≤ N ∧ f = tenI pl - 1 ∧ c = tenI pl) ∨ (N ≤ -8 * D ∧ f = 0 ∧ c = 1) ∨ (N ≠ 0 ∧ -8 * D < N ∧ N < 8 * D ∧ FindR pl (nrmBd pl N D) f c)
def NrmC (N D : Int) (pl : Nat) (f c : Int) : Prop := ∀ w, Tb w → Calls Tryz.prog 43 #[.agg #[S (qR N D).1, S (qR N D).2], .int .i64 ((pl : Nat) : Int)] w (Ret w fun v _ => v = CellV pl f c)
theorem NmC.call {pl : Nat} {N D f c : Int} (h : NmC pl N D f c) (h1 : 0 < D) (hN : N.natAbs < 10 ^ 12) (hD : D < 10 ^ 12) (h9 : N.natAbs ≤ 1000000 * D.natAbs) (hp : pl ≤ 12) : NrmC N D pl f c := by
  intro w ht
  rcases h with ⟨h0, rfl, rfl⟩ | ⟨h0, rfl, rfl⟩ | ⟨h0, rfl, rfl⟩ | ⟨h0, h2, h3, hF⟩
  · exact normal_z h1 (by omega) h0 hp ht
  · exact normal_hi hN h1 hD h0 h9 hp ht
  · exact normal_lo hN h1 hD h0 h9 hp ht
  · exact normal_q hN h1 hD h0 h2 h3 hp hF ht
theorem ratio_le {a b c d k : Int} (hb : 0 < b) (hd : 0 < d) (e : a * d = c * b) (h : k * b ≤ a) : k * d ≤ c := by
  refine Int.le_of_mul_le_mul_right (a := b) ?_ hb
  rw [← e, show k * d * b = k * b * d by grind]
  exact Int.mul_le_mul_of_nonneg_right h (Int.le_of_lt hd)
theorem ratio_ge {a b c d k : Int} (hb : 0 < b) (hd : 0 < d) (e : a * d = c * b) (h : a ≤ k * b) : c ≤ k * d := by
  refine Int.le_of_mul_le_mul_right (a := b) ?_ hb
  rw [← e, show k * d * b = k * b * d by grind]
  exact Int.mul_le_mul_of_nonneg_right h (Int.le_of_lt hd)
theorem ratio_lt {a b c d k : Int} (hb : 0 < b) (hd : 0 < d) (e : a * d = c * b) (h : k * b < a) : k * d < c := by
  refine Int.lt_of_mul_lt_mul_right (a := b) ?_ (Int.le_of_lt hb)
  rw [← e, show k * d * b = k * b * d by grind]
  exact Int.mul_lt_mul_of_pos_right h hd
theorem ratio_gt {a b c d k : Int} (hb : 0 < b) (hd : 0 < d) (e : a * d = c * b) (h : a < k * b) : c < k * d := by
  refine Int.lt_of_mul_lt_mul_right (a := b) ?_ (Int.le_of_lt hb)
  rw [← e, show k * d * b = k * b * d by grind]
  exact Int.mul_lt_mul_of_pos_right h hd
theorem NmC.congr {pl : Nat} {a b c d f g : Int} (hb : 0 < b) (hd : 0 < d) (e : a * d = c * b) (h : NmC pl a b f g) : NmC pl c d f g := by
  rcases h with ⟨h0, h1, h2⟩ | ⟨h0, h1, h2⟩ | ⟨h0, h1, h2⟩ | ⟨h0, h2, h3, hF⟩
  · refine Or.inl ⟨?_, h1, h2⟩
    rw [h0, Int.zero_mul] at e
    rcases Int.mul_eq_zero.1 e.symm with h | h
    · exact h
    · omega
  · exact Or.inr (Or.inl ⟨ratio_le hb hd e h0, h1, h2⟩)
  · exact Or.inr (Or.inr (Or.inl ⟨ratio_ge hb hd e h0, h1, h2⟩))
  · refine Or.inr (Or.inr (Or.inr ⟨fun h => h0 ?_, ratio_lt hb hd e h2, ratio_gt hb hd e h3, ?_⟩))
    · rw [h, Int.zero_mul] at e
      rcases Int.mul_eq_zero.1 e with h | h
      · exact h
      · omega
    · obtain ⟨e1, e2⟩ := red_congr hb hd e
      unfold nrmBd at *
      rw [← e1, ← e2]; exact hF
theorem NmC.uniq {pl : Nat} {a b f c f' c' : Int} (hb : 0 < b) (h : NmC pl a b f c) (h' : NmC pl a b f' c') : f = f' ∧ c = c' := by
  rcases h with ⟨h0, h1, h2⟩ | ⟨h0, h1, h2⟩ | ⟨h0, h1, h2⟩ | ⟨h0, h2, h3, hF⟩ <;> rcases h' with ⟨k0, k1, k2⟩ | ⟨k0, k1, k2⟩ | ⟨k0, k1, k2⟩ | ⟨k0, k2, k3, kF⟩
  all_goals first | exact hF.uniq kF | (constructor <;> omega) | (exfalso; omega)
open Classical in
noncomputable def GfN (pl : Nat) (q : R) : R × R :=
  if h : ∃ y : Int × Int, ∃ a b : Int, 0 < b ∧ q = qR a b ∧ NmC pl a b y.1 y.2 then (qR h.choose.1 (tenI pl), qR h.choose.2 (tenI pl)) else (q, q)
theorem NmC.gf {pl : Nat} {a b f c : Int} (hb : 0 < b) (h : NmC pl a b f c) : GfN pl (qR a b) = (qR f (tenI pl), qR c (tenI pl)) := by
  have hx : ∃ y : Int × Int, ∃ a' b' : Int, 0 < b' ∧ qR a b = qR a' b' ∧ NmC pl a' b' y.1 y.2 := ⟨(f, c), a, b, hb, rfl, h⟩
  unfold GfN
  rw [dif_pos hx]
  obtain ⟨a', b', hb', e, hy⟩ := hx.choose_spec
  obtain ⟨e1, e2⟩ := (hy.congr hb' hb (qR_inj hb hb' e).symm).uniq hb h
  rw [e1, e2]
def clp (n d : Int) : Int × Int := if n < 9 * d then (if -9 * d < n then (n, d) else (-9, 1)) else (9, 1)
theorem clp_pos {n d : Int} (hd : 0 < d) : 0 < (clp n d).2 := by unfold clp; split <;> (try split) <;> simp_all
theorem clp_bd {n d : Int} (hd : 0 < d) : -9 * (clp n d).2 ≤ (clp n d).1 ∧ (clp n d).1 ≤ 9 * (clp n d).2 := by
  unfold clp; split
  · split
    · simp only; omega
    · simp only; omega
  · simp only; omega
def Sh (pl : Nat) (n d f c : Int) : Prop := ∃ f' c', NmC pl (flI (clp n d).1 (clp n d).2 (tenI 6)) (tenI 6) f c' ∧ NmC pl (clI (clp n d).1 (clp n d).2 (tenI 6)) (tenI 6) f' c ∧ f ≤ c ∧ 0 ≤ f ∧ c ≤ tenI pl
theorem fl_bd {n d t k : Int} (hd : 0 < d) (ht : 0 < t) (h1 : -k * d ≤ n) (h2 : n ≤ k * d) : -k * t ≤ flI n d t ∧ clI n d t ≤ k * t := by
  unfold flI clI
  have e1 : -k * t * d ≤ n * t := by
    rw [show -k * t * d = -k * d * t by grind]; exact Int.mul_le_mul_of_nonneg_right h1 (Int.le_of_lt ht)
  have e2 : n * t ≤ k * t * d := by
    rw [show k * t * d = k * d * t by grind]; exact Int.mul_le_mul_of_nonneg_right h2 (Int.le_of_lt ht)
  generalize n * t = m at *
  generalize -k * t = a at *
  generalize k * t = b at *
  have h3 := Int.emod_add_mul_ediv m d
  have h4 := Int.emod_nonneg m (show d ≠ 0 by omega)
  have h5 := Int.emod_lt_of_pos m hd
  refine ⟨Int.le_ediv_of_mul_le hd e1, ?_⟩
  split
  · refine Int.le_of_mul_le_mul_right ?_ hd
    rename_i h6
    rw [Int.mul_comm (m / d) d]; omega
  · have : m / d < b := by
      refine Int.lt_of_mul_lt_mul_right (a := d) ?_ (Int.le_of_lt hd)
      rw [Int.mul_comm (m / d) d]; omega
    omega
theorem q9_cell {f : Int} {pl : Nat} (h : f.natAbs < 10 ^ 70) (hp : pl ≤ 12) : Q9 f (tenI pl) := ten_q9 (Nat.lt_trans h (by decide)) (by omega)
theorem ten_12 {pl : Nat} (h : pl ≤ 12) : tenI pl ≤ 1000000000000 := by
  have h1 : (10 : Nat) ^ pl ≤ 10 ^ 12 := Nat.pow_le_pow_right (by decide) h
  unfold tenI; omega
theorem ten6 : tenI 6 = 1000000 := by decide
theorem minQ_T {k T : Int} (hT : 0 < T) : minQ 1 1 k T = qR (min k T) T := by
  unfold minQ
  by_cases h : k < T
  · rw [mn_t (decide_eq_true (cmpI_lt0 (by omega))), show min k T = k by omega]
  · rw [mn_f (decide_eq_false (cmpI_nlt (by omega))), show min k T = T by omega]
    exact qR_congr (by decide) hT (by omega)
theorem clp_min {n d : Int} : minQ 9 1 n d = qR (if n < 9 * d then n else 9) (if n < 9 * d then d else 1) := by
  unfold minQ
  by_cases h : n < 9 * d
  · rw [mn_t (decide_eq_true (cmpI_lt0 (by omega))), if_pos h, if_pos h]
  · rw [mn_f (decide_eq_false (cmpI_nlt (by omega))), if_neg h, if_neg h]
theorem clp_max {n d : Int} : maxQ (-9) 1 (if n < 9 * d then n else 9) (if n < 9 * d then d else 1) = qR (clp n d).1 (clp n d).2 := by
  unfold maxQ clp
  by_cases h : n < 9 * d
  · simp only [if_pos h]
    by_cases h2 : -9 * d < n
    · rw [mn_t (decide_eq_true (cmpI_gt0 (by omega))), if_pos h2]
    · rw [mn_f (decide_eq_false (cmpI_ngt (by omega))), if_neg h2]
  · simp only [if_neg h]
    rw [mn_t (decide_eq_true (by decide))]
theorem clp_q9 {n d : Int} (h1 : n.natAbs < 10 ^ 12) (h2 : 0 < d) (h3 : d < 10 ^ 12) : Q9 (if n < 9 * d then n else 9) (if n < 9 * d then d else 1) ∧ Q9 (clp n d).1 (clp n d).2 := by
  have q : Q9 n d := q9_12 h1 h2 h3
  have a9 : Q9 9 1 := ⟨by decide, by decide, by decide⟩
  have b9 : Q9 (-9) 1 := ⟨by decide, by decide, by decide⟩
  constructor
  · by_cases h : n < 9 * d
    · rw [if_pos h, if_pos h]; exact q
    · rw [if_neg h, if_neg h]; exact a9
  · unfold clp; split
    · split
      · exact q
      · exact b9
    · exact a9
section
variable {va vb sa sb la lb ha hb n1 d1 n2 d2 f1 c1 f2 c2 : Int} {pl : Nat} {w : World}
theorem q9_24 {a b c d : Int} (h1 : a.natAbs < 10 ^ 12) (h2 : b.natAbs < 10 ^ 12) (h3 : c.natAbs < 10 ^ 12) (h4 : d.natAbs < 10 ^ 12) : (a * b - c * d).natAbs < 10 ^ 25 := by
  have e1 : (a * b).natAbs < 10 ^ 24 := by rw [Int.natAbs_mul, show 10 ^ 24 = 10 ^ 12 * 10 ^ 12 by decide]; exact Nat.mul_lt_mul_of_lt_of_lt h1 h2
  have e2 : (c * d).natAbs < 10 ^ 24 := by rw [Int.natAbs_mul, show 10 ^ 24 = 10 ^ 12 * 10 ^ 12 by decide]; exact Nat.mul_lt_mul_of_lt_of_lt h3 h4
  omega
theorem q9_sub {a b c d : Int} (h1 : a.natAbs < 10 ^ 12) (h2 : 0 < b) (h2' : b < 10 ^ 12) (h3 : c.natAbs < 10 ^ 12) (h4 : 0 < d) (h4' : d < 10 ^ 12) : Q9 (a * d - c * b) (b * d) := by
  refine ⟨Nat.lt_trans (q9_24 h1 (by omega) h3 (by omega)) (by decide), Int.mul_pos h2 h4, ?_⟩
  have e2 : (b * d).natAbs < 10 ^ 24 := by rw [Int.natAbs_mul, show 10 ^ 24 = 10 ^ 12 * 10 ^ 12 by decide]; exact Nat.mul_lt_mul_of_lt_of_lt (by omega) (by omega)
  omega
theorem ShR.mk {a b : Int} (h1 : a.natAbs < 10 ^ 12) (h2 : 0 < b) (h3 : b < 10 ^ 12) : ShR (qR a b) := ⟨a, b, rfl, q9_12 h1 h2 h3, h1, h3⟩
theorem IvR.cell {f c : Int} (h1 : f ≤ c) (h2 : 0 ≤ f) (h3 : c ≤ tenI pl) (hp : pl ≤ 12) : IvR (qR f (tenI pl), qR c (tenI pl)) := by
  have hT := ten_12 hp
  have hT0 := ten_pos pl
  exact ⟨f, tenI pl, c, tenI pl, rfl, rfl, q9_cell (by omega) hp, q9_cell (by omega) hp, Int.mul_le_mul_of_nonneg_right h1 (Int.le_of_lt hT0)⟩
theorem outside_sh (p1 : 1 ≤ pl) (p12 : pl ≤ 12) (v1 : va.natAbs < 10 ^ 12) (v2 : 0 < vb) (v3 : vb < 10 ^ 12) (s1 : 0 < sa) (s1' : sa < 10 ^ 12) (s2 : 0 < sb) (s3 : sb < 10 ^ 12) (l1 : la.natAbs < 10 ^ 12) (l2 : 0 < lb) (l3 : lb < 10 ^ 12) (h1 : ha.natAbs < 10 ^ 12) (h2 : 0 < hb) (h3 : hb < 10 ^ 12) (hlh : la * hb < ha * lb)
    (e1 : (la * vb - va * lb) * sb * d1 = n1 * (lb * vb * sa)) (e2 : (va * hb - ha * vb) * sb * d2 = n2 * (vb * hb * sa)) (m1 : n1.natAbs < 10 ^ 12) (m2 : 0 < d1) (m3 : d1 < 10 ^ 12) (k1 : n2.natAbs < 10 ^ 12) (k2 : 0 < d2) (k3 : d2 < 10 ^ 12) (x1 : Sh pl n1 d1 f1 c1) (x2 : Sh pl n2 d2 f2 c2) (ht : Tb w) :
    Calls Tryz.prog 59 #[.agg #[S (qR va vb).1, S (qR va vb).2], .agg #[S (qR sa sb).1, S (qR sa sb).2], .agg #[S (qR la lb).1, S (qR la lb).2], .agg #[S (qR ha hb).1, S (qR ha hb).2], .int .i64 ((pl : Nat) : Int)] w (Ret w fun v _ => v = .tuple #[.agg #[S (qR (min (f1 + f2) (tenI pl)) (tenI pl)).1, S (qR (min (f1 + f2) (tenI pl)) (tenI pl)).2, S (qR (min (c1 + c2) (tenI pl)) (tenI pl)).1, S (qR (min (c1 + c2) (tenI pl)) (tenI pl)).2], .int .i64 0]) := by
  obtain ⟨f1', c1', a1, b1, i1, j1, g1⟩ := x1
  obtain ⟨f2', c2', a2, b2, i2, j2, g2⟩ := x2
  have hT := ten_12 p12
  have hT0 := ten_pos pl
  have z1 := clp_pos (n := n1) m2
  have z2 := clp_pos (n := n2) k2
  obtain ⟨y1, y2⟩ := clp_bd (n := n1) m2
  obtain ⟨y3, y4⟩ := clp_bd (n := n2) k2
  obtain ⟨t1, t2⟩ := fl_bd z1 (ten_pos 6) y1 y2
  obtain ⟨t3, t4⟩ := fl_bd z2 (ten_pos 6) y3 y4
  have t5 := cl_fl_le (a := (clp n1 d1).1) (b := (clp n1 d1).2) (t := tenI 6)
  have t6 := cl_fl_le (a := (clp n2 d2).1) (b := (clp n2 d2).2) (t := tenI 6)
  have cd : ∀ x : Int, -9 * tenI 6 ≤ x → x ≤ 9 * tenI 6 → x.natAbs < 10 ^ 12 ∧ x.natAbs ≤ 1000000 * (tenI 6).natAbs := by rw [ten6]; intro x h1 h2; omega
  have h6 : tenI 6 < 10 ^ 12 := by rw [ten6]; decide
  have q1 := clp_q9 (n := n1) m1 m2 m3
  have q2 := clp_q9 (n := n2) k1 k2 k3
  have A1 := a1.call (ten_pos 6) (cd _ (by omega) (by omega)).1 h6 (cd _ (by omega) (by omega)).2 p12
  have B1 := b1.call (ten_pos 6) (cd _ (by omega) (by omega)).1 h6 (cd _ (by omega) (by omega)).2 p12
  have A2 := a2.call (ten_pos 6) (cd _ (by omega) (by omega)).1 h6 (cd _ (by omega) (by omega)).2 p12
  have B2 := b2.call (ten_pos 6) (cd _ (by omega) (by omega)).1 h6 (cd _ (by omega) (by omega)).2 p12
  have G1 := a1.gf (ten_pos 6)
  have G2 := b1.gf (ten_pos 6)
  have G3 := a2.gf (ten_pos 6)
  have G4 := b2.gf (ten_pos 6)
  have hX : ∀ n d f c, NrmC n d pl f c → GfN pl (qR n d) = (qR f (tenI pl), qR c (tenI pl)) → ∀ W, Tb W → Calls Tryz.prog 43 #[.agg #[S (qR n d).1, S (qR n d).2], .int .i64 ((pl : Nat) : Int)] W (Ret W fun v _ => v = .tuple #[.agg #[S (GfN pl (qR n d)).1.1, S (GfN pl (qR n d)).1.2, S (GfN pl (qR n d)).2.1, S (GfN pl (qR n d)).2.2], .int .i64 0]) := by
    intro n d f c hc hg W hW
    rw [hg]; exact hc W hW
  have R1 := outside_ok (va := va) (vb := vb) (sa := sa) (sb := sb) (la := la) (lb := lb) (ha := ha) (hb := hb) (ma := n1) (mb := d1) (na := n2) (nb := d2) (Gf := GfN pl) (w := w) (ea := f1 + f2) (eb := tenI pl) (fa := c1 + c2) (fb := tenI pl) p1 p12 (q9_12 v1 v2 v3) (q9_12 (by omega) s2 s3) (q9_12 l1 l2 l3) (q9_12 h1 h2 h3) (by
      intro q hq
      simp only [List.mem_cons, List.not_mem_nil, or_false] at hq
      rcases hq with rfl | rfl | rfl | rfl
      · exact ShR.mk v1 v2 v3
      · exact ShR.mk (by omega) s2 s3
      · exact ShR.mk l1 l2 l3
      · exact ShR.mk h1 h2 h3) s1 (decide_eq_true (cmpI_lt0 (by omega))) (decide_eq_true (cmpI_lt0 hlh)) (q9_sub l1 l2 l3 v1 v2 v3) (q9_sub v1 v2 v3 h1 h2 h3)
    (qR_congr (Int.mul_pos (Int.mul_pos l2 v2) s1) m2 e1) (qR_congr (Int.mul_pos (Int.mul_pos v2 h2) s1) k2 e2)
    (q9_12 m1 m2 m3) q1.1 q1.2 clp_min clp_max (q9_12 k1 k2 k3) q2.1 q2.2 clp_min clp_max
    (hX _ _ _ _ A1 G1) (hX _ _ _ _ B1 G2) (hX _ _ _ _ A2 G3) (hX _ _ _ _ B2 G4)
    (by rw [G1, G2]; exact IvR.cell i1 j1 g1 p12) (by rw [G3, G4]; exact IvR.cell i2 j2 g2 p12)
    (a1 := f1) (b1 := tenI pl) (c1 := c1) (d1 := tenI pl) (a2 := f2) (b2 := tenI pl) (c2 := c2) (d2 := tenI pl)
    (by rw [G1]) (by rw [G2]) (q9_cell (by omega) p12) (q9_cell (by omega) p12) (by rw [G3]) (by rw [G4]) (q9_cell (by omega) p12) (q9_cell (by omega) p12)
    (qR_congr (Int.mul_pos hT0 hT0) hT0 (by grind)) (qR_congr (Int.mul_pos hT0 hT0) hT0 (by grind)) (q9_cell (by omega) p12) (q9_cell (by omega) p12) ht
  rw [minQ_T hT0, minQ_T hT0] at R1
  exact R1
end
def ShAll (n d : Int) : Prop := ∃ lo hi : Int, lo ≤ hi ∧ ∀ pl, 1 ≤ pl → pl ≤ 8 → ∃ f c, Sh pl n d f c ∧ f * tenI (8 - pl) ≤ lo ∧ hi ≤ c * tenI (8 - pl) ∧ (0 < n → tenI pl ≤ 2 * c)
theorem Cel.le {pl u f c : Nat} (h : Cel pl u f c) : f ≤ c := by
  obtain ⟨⟨_, ⟨r, _, w⟩ | ⟨r, r2, f1, c1, _, _, _, _, w⟩⟩, _⟩ := h
  · have := w.fc; omega
  · have := w.fc; omega
theorem Cel.nmc {pl u f c : Nat} (h : Cel pl u f c) (h0 : 0 < u) (h8 : u < 8000000) : NmC pl (u : Int) (tenI 6) (f : Int) (c : Int) := by
  rw [ten6]
  exact Or.inr (Or.inr (Or.inr ⟨by omega, by omega, by omega, h.1⟩))
theorem Cel.nmn {pl u f c : Nat} (h : Cel pl u f c) (h0 : 0 < u) (h8 : u < 8000000) : NmC pl (-(u : Int)) (tenI 6) (tenI pl - c) (tenI pl - f) := by
  rw [ten6]
  exact Or.inr (Or.inr (Or.inr ⟨by omega, by omega, by omega, h.2.1⟩))
theorem ten_mul {pl : Nat} (h : pl ≤ 8) : tenI pl * tenI (8 - pl) = 100000000 := by
  unfold tenI
  rw [← Int.natCast_mul, ← Nat.pow_add, show pl + (8 - pl) = 8 by omega]; rfl
theorem nat_ten {f k : Nat} : ((f * 10 ^ k : Nat) : Int) = (f : Int) * tenI k := by unfold tenI; rw [Int.natCast_mul]
theorem fl_nat {K S : Nat} (hS : 0 < S) : flI (K : Int) (((20 * S : Nat)) : Int) (tenI 6) = ((K * 50000 / S : Nat) : Int) := by
  unfold flI
  rw [ten6, show (K : Int) * 1000000 = ((20 * (K * 50000) : Nat) : Int) by omega, ← Int.natCast_ediv, Nat.mul_div_mul_left _ _ (by decide)]
theorem up_nat {a S : Nat} (hS : 0 < S) : (a + (S - 1)) / S = if a % S = 0 then a / S else a / S + 1 := by
  have h := upn_eq (a := a) hS
  unfold upn at h
  exact h.symm
theorem cl_nat {K S : Nat} (hS : 0 < S) : clI (K : Int) (((20 * S : Nat)) : Int) (tenI 6) = (((K * 50000 + (S - 1)) / S : Nat) : Int) := by
  have h1 := fl_nat (K := K) hS
  unfold flI at h1
  unfold clI
  rw [h1, up_nat hS, ten6, show (K : Int) * 1000000 = ((20 * (K * 50000) : Nat) : Int) by omega, ← Int.natCast_emod, Nat.mul_mod_mul_left]
  by_cases h : K * 50000 % S = 0
  · rw [if_pos h, if_pos (by omega)]
  · rw [if_neg h, if_neg (by omega)]; rfl
theorem le_of_ten {f c lo hi : Int} {k : Nat} (h1 : f * tenI k ≤ lo) (h2 : lo ≤ hi) (h3 : hi ≤ c * tenI k) : f ≤ c := by
  refine Int.le_of_mul_le_mul_right (a := tenI k) ?_ (ten_pos k)
  omega
theorem shAll_aux {K S dn up : Nat} (hK : 0 < K) (hS : 0 < S) (h8 : K < 160 * S) (hd0 : 0 < dn) (hle : dn ≤ up) (hup : up < 8000000) (e1 : flI (K : Int) ((20 * S : Nat) : Int) (tenI 6) = (dn : Int)) (e2 : clI (K : Int) ((20 * S : Nat) : Int) (tenI 6) = (up : Int)) (h : PairR dn up) : ShAll (K : Int) ((20 * S : Nat) : Int) ∧ ShAll (-(K : Int)) ((20 * S : Nat) : Int) := by
  obtain ⟨lo, hi, hlh, ha⟩ := h
  have c1 : clp (K : Int) ((20 * S : Nat) : Int) = ((K : Int), ((20 * S : Nat) : Int)) := by
    unfold clp; rw [if_pos (by omega), if_pos (by omega)]
  have c2 : clp (-(K : Int)) ((20 * S : Nat) : Int) = (-(K : Int), ((20 * S : Nat) : Int)) := by
    unfold clp; rw [if_pos (by omega), if_pos (by omega)]
  constructor
  · refine ⟨lo, hi, by omega, fun pl h1 h2 => ?_⟩
    obtain ⟨f, c, f', c', a, b, g1, g2⟩ := ha pl h1 h2
    have g1' : (f : Int) * tenI (8 - pl) ≤ lo := by rw [← nat_ten]; omega
    have g2' : (hi : Int) ≤ (c : Int) * tenI (8 - pl) := by rw [← nat_ten]; omega
    have hT : ((10 ^ pl : Nat) : Int) = tenI pl := rfl
    have b3 := b.2.2.1
    have b4 := b.2.2.2
    have b5 := b.le
    refine ⟨f, c, ⟨f', c', ?_, ?_, le_of_ten g1' (by omega) g2', by omega, by omega⟩, g1', g2', fun _ => by omega⟩
    · rw [c1]; simp only; rw [e1]; exact a.nmc hd0 (by omega)
    · rw [c1]; simp only; rw [e2]; exact b.nmc (by omega) hup
  · refine ⟨100000000 - hi, 100000000 - lo, by omega, fun pl h1 h2 => ?_⟩
    obtain ⟨f, c, f', c', a, b, g1, g2⟩ := ha pl h1 h2
    have g1' : (f : Int) * tenI (8 - pl) ≤ lo := by rw [← nat_ten]; omega
    have g2' : (hi : Int) ≤ (c : Int) * tenI (8 - pl) := by rw [← nat_ten]; omega
    have hT : ((10 ^ pl : Nat) : Int) = tenI pl := rfl
    have hM := ten_mul h2
    have b4 := b.2.2.2
    have hle2 := le_of_ten g1' (by omega) g2'
    refine ⟨tenI pl - c, tenI pl - f, ⟨tenI pl - c', tenI pl - f', ?_, ?_, by omega, by omega, by omega⟩, by rw [Int.sub_mul, hM]; omega, by rw [Int.sub_mul, hM]; omega, fun h => by omega⟩
    · rw [c2]; simp only; rw [flI_neg (by omega), e2]; exact b.nmn (by omega) hup
    · rw [c2]; simp only; rw [clI_neg (by omega), e1]; exact a.nmn hd0 (by omega)
theorem shAll_pos {K S : Nat} (hK : 0 < K) (hS : 0 < S) (hS50 : S ≤ 50000) (h8 : K < 160 * S) (hup : (K * 50000 + (S - 1)) / S < 8000000) (h : PairR (K * 50000 / S) ((K * 50000 + (S - 1)) / S)) : ShAll (K : Int) ((20 * S : Nat) : Int) ∧ ShAll (-(K : Int)) ((20 * S : Nat) : Int) :=
  shAll_aux hK hS h8 (Nat.div_pos (by omega) hS) (Nat.div_le_div_right (Nat.le_add_right _ _)) hup (fl_nat hS) (cl_nat hS) h
theorem ten_even' {pl : Nat} (h : 1 ≤ pl) : tenI pl = 2 * ((10 ^ pl / 2 : Nat) : Int) := by
  obtain ⟨k, rfl⟩ : ∃ k, pl = k + 1 := ⟨pl - 1, by omega⟩
  unfold tenI
  rw [Nat.pow_succ]
  omega
theorem half_fl' {pl : Nat} (h : 1 ≤ pl) : flI 1 2 (tenI pl) = ((10 ^ pl / 2 : Nat) : Int) ∧ clI 1 2 (tenI pl) = ((10 ^ pl / 2 : Nat) : Int) := by
  rw [ten_even' h]
  unfold flI clI
  rw [Int.one_mul, Int.mul_ediv_cancel_left _ (by decide), Int.mul_emod_right, if_pos rfl]
  exact ⟨rfl, rfl⟩
theorem shAll_zero {d : Int} (hd : 0 < d) : ShAll 0 d := by
  refine ⟨50000000, 50000000, by omega, fun pl h1 h2 => ?_⟩
  obtain ⟨e1, e2⟩ := half_fl' h1
  have hE := ten_even' h1
  have hM := ten_mul h2
  have hT := ten_pos pl
  have c1 : clp 0 d = (0, d) := by unfold clp; rw [if_pos (by omega), if_pos (by omega)]
  have z1 : flI 0 d (tenI 6) = 0 := by unfold flI; rw [Int.zero_mul, Int.zero_ediv]
  have z2 : clI 0 d (tenI 6) = 0 := by unfold clI; rw [Int.zero_mul, Int.zero_emod, if_pos rfl, Int.zero_ediv]
  generalize hH : ((10 ^ pl / 2 : Nat) : Int) = H at *
  rw [hE, Int.mul_assoc] at hM
  refine ⟨H, H, ⟨H, H, ?_, ?_, by omega, by omega, by omega⟩, by omega, by omega, fun h => by omega⟩
  · rw [c1]; simp only; rw [z1]; exact Or.inl ⟨rfl, e1.symm, e2.symm⟩
  · rw [c1]; simp only; rw [z2]; exact Or.inl ⟨rfl, e1.symm, e2.symm⟩
theorem clp_ge {n d : Int} (hd : 0 < d) (h : 8 * d ≤ n) : 8 * (clp n d).2 ≤ (clp n d).1 := by
  unfold clp; split
  · rw [if_pos (by omega)]; exact h
  · simp only; omega
theorem clp_le {n d : Int} (hd : 0 < d) (h : n ≤ -8 * d) : (clp n d).1 ≤ -8 * (clp n d).2 := by
  unfold clp; rw [if_pos (by omega)]; split
  · exact h
  · simp only; omega
theorem shAll_hi {n d : Int} (hd : 0 < d) (h : 8 * d ≤ n) : ShAll n d := by
  have c0 := clp_pos (n := n) hd
  have c8 := clp_ge hd h
  have c9 := (clp_bd (n := n) hd).2
  have h1 : 8 * tenI 6 ≤ flI (clp n d).1 (clp n d).2 (tenI 6) := by
    unfold flI
    refine Int.le_ediv_of_mul_le c0 ?_
    rw [show 8 * tenI 6 * (clp n d).2 = 8 * (clp n d).2 * tenI 6 by grind]
    exact Int.mul_le_mul_of_nonneg_right c8 (Int.le_of_lt (ten_pos 6))
  have h2 := cl_fl_le (a := (clp n d).1) (b := (clp n d).2) (t := tenI 6)
  refine ⟨99999999, 100000000, by omega, fun pl p1 p2 => ?_⟩
  have hM := ten_mul p2
  have hT := ten_pos (8 - pl)
  have hT' := ten_pos pl
  exact ⟨tenI pl - 1, tenI pl, ⟨tenI pl - 1, tenI pl, Or.inr (Or.inl ⟨by omega, rfl, rfl⟩), Or.inr (Or.inl ⟨by omega, rfl, rfl⟩), by omega, by omega, by omega⟩, by rw [Int.sub_mul, hM]; omega, by omega, fun _ => by omega⟩
theorem shAll_lo {n d : Int} (hd : 0 < d) (h : n ≤ -8 * d) : ShAll n d := by
  have c0 := clp_pos (n := n) hd
  have c8 := clp_le hd h
  have h1 : clI (clp n d).1 (clp n d).2 (tenI 6) ≤ -8 * tenI 6 := by
    have e : clI (clp n d).1 (clp n d).2 (tenI 6) = -flI (-(clp n d).1) (clp n d).2 (tenI 6) := by rw [flI_neg c0]; omega
    rw [e]
    have : 8 * tenI 6 ≤ flI (-(clp n d).1) (clp n d).2 (tenI 6) := by
      unfold flI
      refine Int.le_ediv_of_mul_le c0 ?_
      rw [show 8 * tenI 6 * (clp n d).2 = 8 * (clp n d).2 * tenI 6 by grind]
      exact Int.mul_le_mul_of_nonneg_right (by omega) (Int.le_of_lt (ten_pos 6))
    omega
  have h2 := cl_fl_le (a := (clp n d).1) (b := (clp n d).2) (t := tenI 6)
  refine ⟨0, 1, by omega, fun pl p1 p2 => ?_⟩
  have hT := ten_pos (8 - pl)
  have hT' := ten_pos pl
  exact ⟨0, 1, ⟨0, 1, Or.inr (Or.inr (Or.inl ⟨by omega, rfl, rfl⟩)), Or.inr (Or.inr (Or.inl ⟨by omega, rfl, rfl⟩)), by omega, by omega, by omega⟩, by omega, by omega, fun h => by omega⟩
theorem prod_div {W D g : Nat} (h1 : 1 ≤ W) (h2 : W ≤ 40) (h3 : D ≤ 50) (hg : g ∣ W * D) (g0 : 0 < g) : prodB (W * D / g) = true := by
  have a1 : 0 < Nat.gcd g W := Nat.gcd_pos_of_pos_left _ g0
  obtain ⟨u, hu⟩ := Nat.gcd_dvd_left g W
  obtain ⟨v, hv⟩ := Nat.gcd_dvd_right g W
  have hc : Nat.Coprime u v := by
    have e := Nat.gcd_mul_left (Nat.gcd g W) u v
    rw [← hu, ← hv] at e
    have : Nat.gcd g W * 1 = Nat.gcd g W * Nat.gcd u v := by omega
    exact (Nat.eq_of_mul_eq_mul_left a1 this).symm
  have hd : u ∣ D := by
    refine hc.dvd_of_dvd_mul_left (m := v) ?_
    obtain ⟨k, hk⟩ := hg
    refine ⟨k, Nat.eq_of_mul_eq_mul_left a1 ?_⟩
    rw [← Nat.mul_assoc, ← hv, ← Nat.mul_assoc, ← hu]; exact hk
  obtain ⟨t, rfl⟩ := hd
  have e : W * (u * t) / g = v * t := by
    have : W * (u * t) = g * (v * t) := by
      calc W * (u * t) = (Nat.gcd g W * v) * (u * t) := by rw [← hv]
        _ = (Nat.gcd g W * u) * (v * t) := by grind
        _ = g * (v * t) := by rw [← hu]
    rw [this, Nat.mul_div_cancel_left _ g0]
  rw [e]
  have v0 : 0 < v := by
    rcases Nat.eq_zero_or_pos v with h | h
    · rw [h, Nat.mul_zero] at hv; omega
    · exact h
  have vW : v ≤ W := by
    calc v = 1 * v := (Nat.one_mul v).symm
      _ ≤ Nat.gcd g W * v := Nat.mul_le_mul_right _ a1
      _ = W := hv.symm
  have u0 : 0 < u := by
    rcases Nat.eq_zero_or_pos u with h | h
    · rw [h, Nat.mul_zero] at hu; omega
    · exact h
  have tD : t ≤ u * t := by
    calc t = 1 * t := (Nat.one_mul t).symm
      _ ≤ u * t := Nat.mul_le_mul_right _ u0
  exact prodB_ok (by omega) (by omega) (by omega)
structure TabS (S : Nat) : Prop where
  rng : ∀ K, 0 < K → K ≤ 2000 → K < 160 * S → Nat.gcd K S = 1 → prodB K = true → pairK S K = true
theorem up_lt {K S : Nat} (hS : 0 < S) (hS2 : S ≤ 30) (h : K < 160 * S) : (K * 50000 + (S - 1)) / S < 8000000 := by
  refine (Nat.div_lt_iff_lt_mul hS).2 ?_
  omega
theorem shAll_frac (T : ∀ S, 1 ≤ S → S ≤ 30 → TabS S) {W D s : Nat} (w1 : 1 ≤ W) (w40 : W ≤ 40) (d50 : D ≤ 50) (s1 : 1 ≤ s) (s30 : s ≤ 30) :
    ∃ n d : Nat, 0 < d ∧ d ≤ 600 ∧ n ≤ 2000 ∧ n * (20 * s) = W * D * d ∧ (0 < n ↔ 0 < D) ∧ ShAll (n : Int) (d : Int) ∧ ShAll (-(n : Int)) (d : Int) := by
  have hm : W * D ≤ 2000 := by
    calc W * D ≤ 40 * 50 := Nat.mul_le_mul w40 d50
      _ = 2000 := rfl
  rcases Nat.eq_zero_or_pos D with h0 | h0
  · subst h0
    exact ⟨0, 20 * s, by omega, by omega, by omega, by omega, by omega, shAll_zero (by omega), by rw [show -((0 : Nat) : Int) = 0 by decide]; exact shAll_zero (by omega)⟩
  have hp : 0 < W * D := Nat.mul_pos w1 h0
  have hg : 0 < Nat.gcd (W * D) s := Nat.gcd_pos_of_pos_left _ hp
  obtain ⟨K, hK⟩ := Nat.gcd_dvd_left (W * D) s
  obtain ⟨S, hS⟩ := Nat.gcd_dvd_right (W * D) s
  have hpr := prod_div w1 w40 d50 (Nat.gcd_dvd_left (W * D) s) hg
  have eK : W * D / Nat.gcd (W * D) s = K := by
    conv => lhs; lhs; rw [hK]
    exact Nat.mul_div_cancel_left _ hg
  rw [eK] at hpr
  have hgc : Nat.gcd K S = 1 := by
    have e := Nat.gcd_mul_left (Nat.gcd (W * D) s) K S
    rw [← hK, ← hS] at e
    have : Nat.gcd (W * D) s * 1 = Nat.gcd (W * D) s * Nat.gcd K S := by omega
    exact (Nat.eq_of_mul_eq_mul_left hg this).symm
  generalize hG : Nat.gcd (W * D) s = g at *
  have K0 : 0 < K := by
    rcases Nat.eq_zero_or_pos K with h | h
    · rw [h, Nat.mul_zero] at hK; omega
    · exact h
  have S0 : 0 < S := by
    rcases Nat.eq_zero_or_pos S with h | h
    · rw [h, Nat.mul_zero] at hS; omega
    · exact h
  have KW : K ≤ W * D := by
    calc K = 1 * K := (Nat.one_mul K).symm
      _ ≤ g * K := Nat.mul_le_mul_right _ hg
      _ = W * D := hK.symm
  have Ss : S ≤ s := by
    calc S = 1 * S := (Nat.one_mul S).symm
      _ ≤ g * S := Nat.mul_le_mul_right _ hg
      _ = s := hS.symm
  refine ⟨K, 20 * S, by omega, by omega, by omega, ?_, by omega, ?_⟩
  · rw [hK, hS]; grind
  · by_cases h8 : K < 160 * S
    · exact shAll_pos K0 S0 (by omega) h8 (up_lt S0 (by omega) h8) (pairK_ok S0 (by omega) ((T S S0 (by omega)).rng K K0 (by omega) h8 hgc hpr))
    · exact ⟨shAll_hi (by omega) (by omega), shAll_lo (by omega) (by omega)⟩
end Go.Proofs.YtonigegpknhdnaaGreatDoor
namespace Go.Proofs.YtonigegpknhdnaaGreatDoor
open Go Go.ChangeShapes Go.WideShapes Go.ChangeAt Go.RowKit Go.Deep Go.Eng
theorem cOwn : ownKnob Tryz.prog.godebug = none := by kernel_rfl
theorem cLaid : laidOutB Tryz.prog = true := by kernel_rfl
theorem c3 : Tryz.prog.cellsOf 3 = 1 := by kernel_rfl
theorem c2022 : Tryz.prog.cellsOf 22 = 7 := by kernel_rfl
theorem gPow : Tryz.prog.globalNamed "internal/strconv.uint64pow10" = some 3 := by kernel_rfl
theorem tPow : (Tryz.prog.globals[3]?).map (·.type) = some 257 := by kernel_rfl
theorem zPow0 : (((begin Tryz.prog (fun _ _ => 0) default).world.heap[3]?).bind Obj.row?).map (·.2) = some 257 := by kernel_rfl
theorem zPow : ∃ z, (((begin Tryz.prog (fun _ _ => 0) default).world.heap[3]?).bind Obj.row?) = some (z, 257) := by
  obtain ⟨⟨z, t⟩, h, e⟩ := Option.map_eq_some_iff.1 zPow0
  cases e; exact ⟨z, h⟩
theorem nPow : 3 < Tryz.prog.globals.size := of_decide_eq_true (by kernel_rfl)
theorem lPow : Rows.laid_internal_strconv_uint64pow10 = (.agg (Lib.pow10Tab.map fun z => DataW.lit (.int .u64 z)) : DataW Unit) := by kernel_rfl
theorem cU : Tryz.prog.cellsOf 225 = 1 := by kernel_rfl
theorem uU : Tryz.prog.underlying 225 = some (.int .u64) := by kernel_rfl
theorem cA : Tryz.prog.cellsOf 257 = 20 := by kernel_rfl
theorem kPow : Lib.pow10Tab.length = 20 := by kernel_rfl
theorem trod_cons {H : Type} {enc : TypeId × Value → H} {P : Program} {w : World} {base : Nat} {sp : Nat → Bool} {hd : Bool} {t : TypeId} {ts : List TypeId} {vs : List Value} {ds : List (DataW H)} {ps : List MemPlace}
    (h : DataW.TrodAll enc P w base sp hd (t :: ts) vs ds ps) : ∃ v vs' d ds' p q, vs = v :: vs' ∧ ds = d :: ds' ∧ DataW.Trod enc P w base sp hd t v d p ∧ DataW.TrodAll enc P w base sp hd ts vs' ds' q := by
  match vs, ds, h with
  | v :: vs', d :: ds', h =>
    obtain ⟨p, q, h1, h2, _⟩ := h
    exact ⟨v, vs', d, ds', p, q, rfl, rfl, h1, h2⟩
theorem trod_end {H : Type} {enc : TypeId × Value → H} {P : Program} {w : World} {base : Nat} {sp : Nat → Bool} {hd : Bool} {vs : List Value} {ds : List (DataW H)} {ps : List MemPlace}
    (h : DataW.TrodAll enc P w base sp hd [] vs ds ps) : vs = [] ∧ ds = [] := by
  match vs, ds, h with
  | [], [], _ => exact ⟨rfl, rfl⟩
theorem all_again {H : Type} {enc : TypeId × Value → H} {W W' : World} {sp' : Nat → Bool} (k : Ext W W') : ∀ {ts : List TypeId} {vs : List Value} {ds : List (DataW H)} {ps : List MemPlace},
    (∀ t ∈ ts, Tryz.prog.readableRec t = true ∧ t < Tryz.prog.types.size) → DataW.TrodAll enc Tryz.prog W 0 (fun _ => true) true ts vs ds ps → (∀ p ∈ ps, p.block < W.heap.size) → (∀ p ∈ ps, sp' p.block = true) → DataW.TrodAll enc Tryz.prog W' 0 sp' true ts vs ds ps
  | [], [], [], _, _, h, _, _ => h
  | t :: ts, v :: vs, d :: ds, ps, hr, h, hl, hs => by
    obtain ⟨p, q, h1, h2, rfl⟩ := h
    refine ⟨p, q, WideElems.Trod_stays cLaid (hr t (by simp)).1 (hr t (by simp)).2 h1 (fun x hx => ?_) (fun x hx => hs x (by simp [hx])), all_again k (fun u hu => hr u (by simp [hu])) h2 (fun x hx => hl x (by simp [hx])) (fun x hx => hs x (by simp [hx])), rfl⟩
    have hb := hl x (by simp [hx])
    cases x with
    | cell b o => exact World.cell?_of_block (k.block b hb)
    | map b => exact k.block b hb
  | [], [], _ :: _, _, _, h, _, _ => h.elim
  | [], _ :: _, _, _, _, h, _, _ => h.elim
  | _ :: _, [], _, _, _, h, _, _ => h.elim
  | _ :: _, _ :: _, [], _, _, h, _, _ => h.elim
theorem wf64 {n : Int} (h : (Lit.int .i64 n).wf = true) : In64 n := by
  simp only [Lit.wf, Bool.and_eq_true, decide_eq_true_eq] at h
  have e1 : IntKind.i64.min = -9223372036854775808 := rfl
  have e2 : IntKind.i64.max = 9223372036854775807 := rfl
  rw [e1, e2] at h
  unfold In64; omega
section
variable {H : Type} {enc : TypeId × Value → H} {W : World} {base fuel b0 : Nat} {x : DataW H × List MemPlace}
set_option maxRecDepth 100000 in
theorem seven_of {v : Value} (hv : Value.okWide Tryz.prog W .any b0 22 v) (h : DataW.trod enc Tryz.prog W base (fun _ => true) true fuel 22 v.cells.toList = some x) :
    ∃ a b c d e f g : Int, v = .agg #[.int .i64 a, .int .i64 b, .int .i64 c, .int .i64 d, .int .i64 e, .int .i64 f, .int .i64 g] ∧ In64 a ∧ In64 b ∧ In64 c ∧ In64 d ∧ In64 e ∧ In64 f ∧ In64 g := by
  unfold Value.okWide at hv
  rw [Tryz.underlying22] at hv
  obtain ⟨cs, rfl, hs, _⟩ := hv
  rw [c2022] at hs
  obtain ⟨xs, m, _, _, _, hl, hx⟩ := DataW.trod_array Tryz.underlying22 h
  have key : ∀ i u, i < 7 → cs.toList[i]? = some u → ∃ a, u = .int .i64 a ∧ In64 a := by
    intro i u hi hu
    have h0 := hx i hi
    rw [c3, List.getElem?_eq_getElem (show i < xs.length by omega)] at h0
    obtain ⟨a, ea, _, wa⟩ := DataW.trod_int Tryz.underlying3 h0
    refine ⟨a, ?_, wf64 wa⟩
    have e2 : (((Value.agg cs).cells.toList.drop (i * 1)).take 1)[0]? = some u := by
      have hc : (Value.agg cs).cells = cs := rfl
      rw [hc, Nat.mul_one, List.getElem?_take, if_pos (by decide), List.getElem?_drop, Nat.add_zero]; exact hu
    rw [ea] at e2
    exact (Option.some.inj e2).symm
  obtain ⟨l⟩ := cs
  match l, hs, key with
  | [u0, u1, u2, u3, u4, u5, u6], _, key =>
    obtain ⟨a0, rfl, k0⟩ := key 0 u0 (by decide) rfl
    obtain ⟨a1, rfl, k1⟩ := key 1 u1 (by decide) rfl
    obtain ⟨a2, rfl, k2⟩ := key 2 u2 (by decide) rfl
    obtain ⟨a3, rfl, k3⟩ := key 3 u3 (by decide) rfl
    obtain ⟨a4, rfl, k4⟩ := key 4 u4 (by decide) rfl
    obtain ⟨a5, rfl, k5⟩ := key 5 u5 (by decide) rfl
    obtain ⟨a6, rfl, k6⟩ := key 6 u6 (by decide) rfl
    exact ⟨a0, a1, a2, a3, a4, a5, a6, rfl, k0, k1, k2, k3, k4, k5, k6⟩
end
end Go.Proofs.YtonigegpknhdnaaGreatDoor
namespace Go.Proofs.YtonigegpknhdnaaGreatDoor
set_option maxRecDepth 100000
open Go Go.Eng Go.RowKit
attribute [local irreducible] wpListIn Code.wpIn Oper.wpIn Exit.then Exit.inBlock Exit.noGoto
set_option maxHeartbeats 40000000
theorem neg_eq {l : List UInt8} (h : 0 < l.length) : (((l.getD 0 0).toNat : Nat) : Int) = 45 ↔ neg l = true:=by
  cases l with
  | nil=>simp at h
  | cons c t =>
    simp only [List.getD_cons_zero]
    constructor
    · intro e
      have : c = 45:=by apply UInt8.toNat_inj.1; have:=Int.ofNat.inj e; simpa using this
      subst this; rfl
    · intro e
      unfold neg at e
      split at e
      · rename_i h2; cases h2; rfl
      · cases e
theorem neg_dec {l : List UInt8} (h : 0 < l.length) : decide ((((l.getD 0 0).toNat : Nat) : Int) = 45) = neg l:=by
  have:=neg_eq h
  cases hn : neg l
  · rw [hn] at this; exact decide_eq_false (fun e=>Bool.noConfusion (this.1 e))
  · rw [hn] at this; exact decide_eq_true (this.2 rfl)
theorem len_bn {l : List UInt8} : l.length = (body l).length + (if neg l then 1 else 0):=by
  unfold body neg
  split <;> simp_all
theorem short_3 {l m : List UInt8} {a b : Int} (e : (l,m) = qR a b) (h : Q9 a b) (ha : a.natAbs < 10 ^ 12) : ((l.length : Nat) : Int)≤13∧(¬ ((l.length : Nat) : Int)≤12→neg l = true):=by
  have h1:=short_1 e h ha
  have h2:=len_bn (l:=l)
  cases hn : neg l
  · rw [hn] at h2; simp only [Bool.false_eq_true, if_false] at h2
    exact ⟨by omega,fun x=>absurd om x⟩
  · rw [hn] at h2; simp only [if_true] at h2
    exact ⟨by omega,fun _=>rfl⟩
theorem qR_len {l m : List UInt8} {a b : Int} (e : (l,m) = qR a b) (h : Q9 a b) : 0 < l.length:=by
  have ho : okR (l,m) = true:=e ▸ h.ok
  cases l with
  | nil=>exact absurd ho (by simp [okR,isInt,show isNum (body []) = false by decide])
  | cons c t=>simp
theorem negative_ok {l m : List UInt8} {w : World} (hl : 0 < l.length) :
    Calls Tryz.prog 52 #[.agg #[S (l),S (m)]] w (Ret w fun v w'=>v = .bool (neg l)):=by
 refine f_in Tryz.func52 rfl ?_;refine go ?_;refine bx (fun fh ac co=>?_);have fe:=ac.2;refine go ?_;have fg:=byteAt_ (l:=l) (i:=0) om;refine l_op (k_byte (l:=l) (i:=0) (c:=(l.getD 0 0)) U9 rfl rfl fg ?_);refine go ?_;exact f_ret1 (t:=2) (v:=.bool (decide ((((l.getD 0 0).toNat : Nat) : Int) = 45))) rfl fe (congrArg Value.bool (neg_dec hl)) rfl
theorem dshort_ok {l m : List UInt8} {a b : Int} {w : World} (e : (l,m) = qR a b) (h : Q9 a b) (ha : a.natAbs < 10 ^ 12) (hb : b < 10 ^ 12) (ht : Tb w) :
    Calls Tryz.prog 51 #[.agg #[S (l),S (m)]] w (Ret w fun v w'=>v = .bool true):=by
 have h2:=short_2 e h hb;have h3:=short_3 e h ha;have h4:=h3.1;have hl:=qR_len e h;refine f_in Tryz.func51 rfl ?_;refine go ?_;refine bx (fun fm fk ac=>?_);have co:=fk.2;refine go ?_;by_cases fe : (((l).length : Nat) : Int)≤12;refine go ?_;refine cl en82 (cB (rValid_ok _ _ _ (ht.ext co)) (okL e h)) ?_;rintro fo fp fg rfl;have ⟨ac,co⟩:=be1 fg.2 ac co;refine go ?_;refine l_op (k_lenL (l:=m) U9 rfl ?_);refine go ?_;refine l_op (k_lenL (l:=l) U9 rfl ?_);refine go ?_;exact f_ret1 (t:=2) (v:=.bool (true)) rfl co (by first | rfl | exact congrArg Value.bool (decide_eq_true om)) rfl;refine go ?_;refine cl en82 (cB (rValid_ok _ _ _ (ht.ext co)) (okL e h)) ?_;rintro fq fw fh rfl;have ⟨ac,co⟩:=be1 fh.2 ac co;refine go ?_;refine l_op (k_lenL (l:=m) U9 rfl ?_);refine go ?_;refine l_op (k_lenL (l:=l) U9 rfl ?_);refine go ?_;refine cl en2052 (negative_ok hl) ?_;rintro f6 f7 fj rfl;have ⟨ac,co⟩:=be1 fj.2 ac co;refine go ?_;(try refine l_want (s:=19) rfl (congrArg Value.bool (h3.2 om)) ?_);refine go ?_;(try refine l_want (s:=19) rfl (congrArg Value.bool (h3.2 om)) ?_);refine go ?_;(try refine l_want (s:=19) rfl (congrArg Value.bool (h3.2 om)) ?_);refine l_op (k_lenL (l:=l) U9 rfl ?_);(try refine l_want (s:=19) rfl (congrArg Value.bool (h3.2 om)) ?_);refine go ?_;refine l_op (k_pick (t:=true) (v:=.bool (decide ((((l).length : Nat) : Int) = 13))) (congrArg Value.bool (h3.2 om)) rfl ?_);refine go ?_
 exact f_ret1 (t:=2) (v:=.bool (decide ((((l).length : Nat) : Int) = 13))) rfl co (by first | rfl | exact congrArg Value.bool (decide_eq_true om)) rfl
theorem keep_ok {l m l' m' : List UInt8} {w : World} :
    Calls Tryz.prog 137 #[.agg #[S (l),S (m)],.agg #[S (l'),S (m')]] w (Ret w fun v w'=>v = .tuple #[.agg #[S (l),S (m)],.int .i64 0]):=by
 refine f_in Tryz.func137 rfl ?_;refine go ?_;refine bx (fun fq fm ac=>?_);have co:=fm.2;refine bx (fun fj fk fe=>?_);have ⟨ac,co⟩:=be1 fk.2 ac co;refine al inf36 (fun fw fh fo=>?_);have ⟨ac,fe,co⟩:=be2 fh.2 ac fe co;refine go ?_;refine SA fo (fun f6 fg fp=>?_);have ⟨ac,fe,co,f7⟩:=pl2 fg ac fe co;refine go ?_;refine f_out (v:=.tuple #[.agg #[S (l),S (m)],.int .i64 (0)]) (res2 (r1:=.cell 4 25) (r2:=.tmp 5) rfl ?_ ?_) co rfl;refine res_cellA (t:=4) (cs:=[S (l),S (m)]) (b:=fj.heap.size) (o:=0) U36 rfl sz36 ?_ ?_;exact rfl;exact Blk.cells fp (i:=0) rfl;exact res_tmp (t:=5) (by exact rfl) _
end Go.Proofs.YtonigegpknhdnaaGreatDoor
namespace Go.Proofs.YtonigegpknhdnaaGreatDoor
open Go Go.Eng Go.RowKit
section
variable {r : Option Nat} {n N : Nat} {e : Nat → Value} {ds : List Deferred} {w : World} {Q : Exit → Act → World → Prop} {K : Act → World → Prop}
variable {d t ty : Nat} {pos : String} {af : Array Edge} {g : Option (Nat × Bool)} {x y : Operand}
theorem k_buildArr {m : Nat} {el : TypeId} {z z2 : Value} {size bytes sz bz : Nat} {parts : Array (Nat × Operand)} {vs : List (Nat × Value)} {cells : Array Value} (hu : Tryz.prog.underlying t = some (.array m el)) (hi : Inf Tryz.prog t z sz bz) (hi2 : Inf Tryz.prog el z2 size bytes)
    (hp : (parts.toList.map fun (i,x)=>(i,ev N e x)) = vs) (hf : Instr.fill (fun i=>some (i * size,size)) z.cells vs = some cells)
    (hk : K (act N (upd e d (.agg cells)) ds) w) :
    Oper.wpIn (Fw r) n Tryz.prog ⟨some d,.build t parts,ty,pos,af,g⟩ (act N e ds) w K Q:=by
  obtain ⟨i,i1,i2,i3,i4⟩:=hi.parts
  obtain ⟨j,j1,j2,j3,j4⟩:=hi2.parts
  refine k_val (v:=.agg cells) (w':=w) rfl ?_ (by rw [act_put]; exact hk)
  have hp' : (parts.map fun (i,x)=>(i,ev N e x)).toList = vs:=by rw [← hp]; simp
  subst hp'
  subst j3
  simp only [execOp,Instr.build,Sem.run_bind,run_underlying hu,Result.andThen_ok,zeroValue,typeInfo,run_program,i1,Sem.run_pure,i2,sizeOf,j1,hf]
theorem k_indexArr {m m2 el el2 s i : Nat} {k : IntKind} {cs : Array Value} {v : Array Value} (hu : Tryz.prog.underlying t = some (.array m el)) (hu2 : Tryz.prog.underlying el = some (.array m2 el2)) (hs : (Tryz.prog.info? el).map (·.size) = some s)
    (hx : ev N e x = .agg cs) (hy : ev N e y = .int k (i : Int)) (hlt : i < m) (hv : cs.extract (i * s) (i * s + s) = v)
    (hk : K (act N (upd e d (.agg v)) ds) w) : Oper.wpIn (Fw r) n Tryz.prog ⟨some d,.index t x y,ty,pos,af,g⟩ (act N e ds) w K Q:=by
  refine k_val (v:=.agg v) (w':=w) rfl ?_ (by rw [act_put]; exact hk)
  subst hv
  cases hi : Tryz.prog.info? el with
  | none=>simp [hi] at hs
  | some inf =>
    have hs' : inf.size = s:=by simpa [hi] using hs
    subst hs'
    simp [execOp,hx,hy,Instr.index,asIntOf,run_underlying hu,hlt,sizeOf,typeInfo,hi,part,isAgg,run_underlying hu2]
end
end Go.Proofs.YtonigegpknhdnaaGreatDoor
namespace Go.Proofs.YtonigegpknhdnaaGreatDoor
open Go Go.Eng Go.RowKit
attribute [local irreducible] wpListIn Code.wpIn Oper.wpIn Exit.then Exit.inBlock Exit.noGoto
set_option maxHeartbeats 40000000
set_option maxRecDepth 100000 in
theorem shifts_ok {w : World} :
    Calls Tryz.prog 82 #[] w (Ret w fun v w'=>v = .agg #[.nilFunc,.nilFunc,.func (.func 137) #[] #[],.func (.func 137) #[] #[],.func (.func 13) #[] #[],.func (.func 16) #[] #[],.func (.func 16) #[] #[],.func (.func 13) #[] #[]]):=by
 refine f_in Tryz.func82 rfl ?_;refine go ?_;refine al inf2117 (fun fj fe fg=>?_);have ac:=fe.2;refine go ?_;refine l_op (k_buildArr (vs:=[(0,.func (.func 137) #[] #[]),(1,.func (.func 137) #[] #[])]) (cells:=#[.func (.func 137) #[] #[],.func (.func 137) #[] #[]]) U2116 inf2116 inf2115 rfl (by kernel_rfl) ?_);refine l_op (k_buildArr (vs:=[(0,.func (.func 13) #[] #[]),(1,.func (.func 16) #[] #[])]) (cells:=#[.func (.func 13) #[] #[],.func (.func 16) #[] #[]]) U2116 inf2116 inf2115 rfl (by kernel_rfl) ?_);refine l_op (k_buildArr (vs:=[(0,.func (.func 16) #[] #[]),(1,.func (.func 13) #[] #[])]) (cells:=#[.func (.func 16) #[] #[],.func (.func 13) #[] #[]]) U2116 inf2116 inf2115 rfl (by kernel_rfl) ?_);refine l_op (k_buildArr (vs:=[(1,.agg #[.func (.func 137) #[] #[],.func (.func 137) #[] #[]]),(2,.agg #[.func (.func 13) #[] #[],.func (.func 16) #[] #[]]),(3,.agg #[.func (.func 16) #[] #[],.func (.func 13) #[] #[]])]) (cells:=#[.nilFunc,.nilFunc,.func (.func 137) #[] #[],.func (.func 137) #[] #[],.func (.func 13) #[] #[],.func (.func 16) #[] #[],.func (.func 16) #[] #[],.func (.func 13) #[] #[]]) U2117 inf2117 inf2116 rfl (by kernel_rfl) ?_)
 refine l_op (k_storeA (b:=w.heap.size) (o:=0) (vs:=[.nilFunc,.nilFunc,.func (.func 137) #[] #[],.func (.func 137) #[] #[],.func (.func 13) #[] #[],.func (.func 16) #[] #[],.func (.func 16) #[] #[],.func (.func 13) #[] #[]]) sz2117 rfl rfl (by simp [Value.oneCell',S]) fg (by first | decide | exact Nat.le_of_ble_eq_true rfl | simp) (fun fk co fh=>?_));have ac:=plw co ac;have fm:=psz co;refine go ?_;refine f_out (v:=.agg #[.nilFunc,.nilFunc,.func (.func 137) #[] #[],.func (.func 137) #[] #[],.func (.func 13) #[] #[],.func (.func 16) #[] #[],.func (.func 16) #[] #[],.func (.func 13) #[] #[]]) (res1  rfl ?_) ac rfl;refine res_cellA (t:=0) (cs:=[.nilFunc,.nilFunc,.func (.func 137) #[] #[],.func (.func 137) #[] #[],.func (.func 13) #[] #[],.func (.func 16) #[] #[],.func (.func 16) #[] #[],.func (.func 13) #[] #[]]) (b:=w.heap.size) (o:=0) U2117 rfl sz2117 ?_ ?_;exact rfl;exact Blk.cells fh (i:=0) rfl
set_option maxRecDepth 100000 in
theorem encValidG_ok {a b c d : Int} {w : World} (q1 : Q9 a b) (q2 : Q9 c d) (ht : Tb w) :
    Calls Tryz.prog 46 #[.agg #[S ((qR a b).1),S ((qR a b).2),S ((qR c d).1),S ((qR c d).2)]] w (Ret w fun v w'=>v = .bool (decide (cmpI (a * d) (c * b)≤0))):=by
 have e1 : ((qR a b).1,(qR a b).2) = qR a b:=rfl;have e2 : ((qR c d).1,(qR c d).2) = qR c d:=rfl;refine f_in Tryz.func46 rfl ?_;refine go ?_;refine bx (fun fk fj ac=>?_);have co:=fj.2;refine go ?_;refine cl en82 (cB (rValid_ok _ _ _ (ht.ext co)) (okL e1 q1)) ?_;rintro fm fo fe rfl;have ⟨ac,co⟩:=be1 fe.2 ac co;refine go ?_;refine cl en82 (cB (rValid_ok _ _ _ (ht.ext co)) (okL e2 q2)) ?_;rintro fp fq fg rfl;have ⟨ac,co⟩:=be1 fg.2 ac co;refine go ?_;refine cl en49 (qCmpX q1 q2 (ht.ext co)) ?_;rintro fw f6 fh rfl;have co:=xt co fh.2;refine go ?_;exact f_ret1 (t:=2) (v:=.bool (decide ((cmpI (a * d) (c * b))≤0))) rfl co rfl rfl
set_option maxRecDepth 100000 in
theorem acc_ok {kd f1 f2 : Nat} {la lb ha hb ga gb ra rb xa xb ya yb : Int} {w : World} (hk4 : kd < 4) (hv : (#[.nilFunc, .nilFunc, .func (.func 137) #[] #[], .func (.func 137) #[] #[], .func (.func 13) #[] #[], .func (.func 16) #[] #[], .func (.func 16) #[] #[], .func (.func 13) #[] #[]] : Array Value).extract (kd * 2) (kd * 2 + 2) = #[.func (.func f1) #[] #[], .func (.func f2) #[] #[]]) (en_1 : Enters Tryz.prog f1) (en_2 : Enters Tryz.prog f2) (hc1 : ∀ W, Tb W → Calls Tryz.prog f1 #[.agg #[S ((qR la lb).1), S ((qR la lb).2)], .agg #[S ((qR ga gb).1), S ((qR ga gb).2)]] W (Ret W fun v _ => v = .tuple #[.agg #[S ((qR xa xb).1), S ((qR xa xb).2)], .int .i64 0])) (hc2 : ∀ W, Tb W → Calls Tryz.prog f2 #[.agg #[S ((qR ha hb).1), S ((qR ha hb).2)], .agg #[S ((qR ga gb).1), S ((qR ga gb).2)]] W (Ret W fun v _ => v = .tuple #[.agg #[S ((qR ya yb).1), S ((qR ya yb).2)], .int .i64 0])) (qx : Q9 xa xb) (qy : Q9 ya yb) (ht : Tb w) :
    Calls Tryz.prog 45 #[.agg #[.int .i64 kd,S ((qR la lb).1),S ((qR la lb).2),S ((qR ha hb).1),S ((qR ha hb).2),S ((qR ga gb).1),S ((qR ga gb).2),S ((qR ra rb).1),S ((qR ra rb).2)]] w (Ret w fun v w'=>v = .tuple #[.agg #[S ((qR xa xb).1),S ((qR xa xb).2),S ((qR ya yb).1),S ((qR ya yb).2)],.bool (decide (cmpI (xa * yb) (ya * xb)≤0))]):=by
 refine f_in Tryz.func45 rfl ?_;refine go ?_;refine bx (fun gi ll iu=>?_);have ip:=ll.2;refine al inf1032 (fun ln jx lu=>?_);have ⟨iu,ip⟩:=be1 jx.2 iu ip;refine go ?_;refine c_dv hmix 5 [4,7,8,9,10] [some (7,.agg #[.nilFunc,.nilFunc,.func (.func 137) #[] #[],.func (.func 137) #[] #[],.func (.func 13) #[] #[],.func (.func 16) #[] #[],.func (.func 16) #[] #[],.func (.func 13) #[] #[]]),some (8,.pointer (some ⟨w.heap.size,0,none⟩)),some (9,.int .i64 kd),some (10,.agg #[.func (.func f1) #[] #[],.func (.func f2) #[] #[]]),none] (XA ln 4 999 4 116 #[.nilFunc,.nilFunc] #[.nilFunc,.nilFunc]) XA.start (by kernel_rfl) (by kernel_rfl) (by kernel_rfl) ?_ ?_;refine ⟨fun ry rz r6 r7 r8 jy r9 sc sd=>?_,?_⟩;obtain ⟨ry,rfl⟩:=ovE r7;refine cl en2082 (shifts_ok) ?_;rintro se sh j5 rfl;refine go ?_;exact dvA rfl jy j5.2;refine ⟨fun si sj sl lv sn lw sq sr ss=>?_,?_⟩;obtain ⟨si,rfl⟩:=ovE lv;refine l_op (k_fieldAddr (b:=w.heap.size) (o:=0) (off:=0) (oo:=0) U2027 rfl rfl sz3 rfl rfl ?_);refine go ?_;exact dvA rfl lw (Ext.refl _);refine ⟨fun lx su sv sy lz j6 ta tc td=>?_,?_⟩;obtain ⟨lx,rfl⟩:=ovE sy;have l0 : lx 8 = .pointer (some ⟨w.heap.size,0,none⟩):=lz 1 _ _ rfl rfl;have l9:=(be j6.1 iu);refine go ?_;exact dvA rfl j6 (Ext.refl _);refine ⟨fun j7 te tg th j8 mc tj tl tm=>?_,?_⟩;obtain ⟨j7,rfl⟩:=ovE th
 have me : j7 7 = .agg #[.nilFunc,.nilFunc,.func (.func 137) #[] #[],.func (.func 137) #[] #[],.func (.func 13) #[] #[],.func (.func 16) #[] #[],.func (.func 16) #[] #[],.func (.func 13) #[] #[]]:=j8 0 _ _ rfl rfl;have mf : j7 9 = .int .i64 kd:=j8 2 _ _ rfl rfl;refine l_op (k_indexArr (i:=kd) (v:=#[.func (.func f1) #[] #[],.func (.func f2) #[] #[]]) U2117 U2116 sz2116 me mf hk4 hv ?_);refine go ?_;exact dvA rfl mc (Ext.refl _);refine ⟨fun tn tp tq tu tv j9 tw tz t7=>?_,?_⟩;obtain ⟨tn,rfl⟩:=ovE tu;have jh:=xt ip j9.1;have t8:=bz jh;refine al inf2116 (fun ua ka mg=>?_);refine go ?_;exact dvAn rfl j9 ka.2 mg;exact trivial;intro iv ub ud mh kb mi iq;obtain ⟨iv,rfl⟩:=ovE kb;have gd:=(be iq.1 iu);have ue:=bt gd;have im:=(be iq.1 lu);have uf:=bt im;have ac:=xt ip iq.1;have ug:=bz ac;have uh:=bz iq.1;obtain ⟨ik,mj,ui,ke⟩:=XA.fin iq (mh 4 rfl) (.inr rfl);have uj:=bt ke;have ji : iv 4 = .pointer (some ⟨ik,0,none⟩):=(mj);have ml : iv 10 = .agg #[.func (.func f1) #[] #[],.func (.func f2) #[] #[]]:=(mi 3 _ _ rfl rfl);refine l_op (k_storeA (b:=ik) (o:=0) (vs:=[.func (.func f1) #[] #[],.func (.func f2) #[] #[]]) sz2116 ji ml (by simp [Value.oneCell',S]) ke (by first | decide | exact Nat.le_of_ble_eq_true rfl | simp) (fun uk iw gh=>?_));have ⟨gd,im,ac,ul⟩:=pl2 iw gd im ac;refine go ?_;refine l_op (k_arrAddr (b:=ik) (o:=0) (i:=0) (oo:=0) U2116 sz2115 ji rfl dc om ?_);refine go ?_
 refine l_op (k_fieldAddr (b:=w.heap.size) (o:=0) (off:=1) (oo:=1) U2027 rfl rfl sz36 rfl rfl ?_);refine go ?_;refine l_op (k_fieldAddr (b:=w.heap.size) (o:=0) (off:=5) (oo:=5) U2027 rfl rfl sz36 rfl rfl ?_);refine go ?_;refine l_op (clV (vs:=[.agg #[S ((qR la lb).1),S ((qR la lb).2)],.agg #[S ((qR ga gb).1),S ((qR ga gb).2)]]) (lb:=[]) en_1 rfl rfl (hc1 _ (ht.ext ac)) ?_);rintro um un iy rfl;have ⟨gd,im,gh,ac⟩:=be3 iy.2 gd im gh ac;refine go ?_;refine SA im (fun uo iz jj=>?_);have ⟨gd,gh,ac,uq⟩:=pl2 iz gd gh ac;refine go ?_;refine l_op (k_arrAddr (b:=ik) (o:=0) (i:=1) (oo:=1) U2116 sz2115 ji rfl dc om ?_);refine go ?_;refine l_op (k_fieldAddr (b:=w.heap.size) (o:=0) (off:=3) (oo:=3) U2027 rfl rfl sz36 rfl rfl ?_);refine go ?_;refine l_op (k_fieldAddr (b:=w.heap.size) (o:=0) (off:=5) (oo:=5) U2027 rfl rfl sz36 rfl rfl ?_);refine go ?_;refine l_op (clV (vs:=[.agg #[S ((qR ha hb).1),S ((qR ha hb).2)],.agg #[S ((qR ga gb).1),S ((qR ga gb).2)]]) (lb:=[]) en_2 rfl rfl (hc2 _ (ht.ext ac)) ?_);rintro ut uu ja rfl;have ⟨gd,jj,gh,ac⟩:=be3 ja.2 gd jj gh ac;refine go ?_;refine SA jj (fun kf jb mm=>?_);have ⟨gd,gh,ac,uv⟩:=pl2 jb gd gh ac;refine go ?_;have ir:=Ext.drew kf
 refine c_st2 hmix 12 (fun e0 ls e W=>(∀ t,inB [33,34,35,36,37,38,39,40,41,42,43] t = false→e t = e0 t)∧(Ext w W)∧(kf.heap.size≤W.heap.size)∧(ls 0 = true→e 33 = .agg #[S ((qR xa xb).1),S ((qR xa xb).2),S ((qR ya yb).1),S ((qR ya yb).2)])∧(ls 1 = true→e 34 = .int .i64 (0))∧(ls 2 = true→e 35 = .bool (decide (0 = 0)))∧(ls 3 = true→e 36 = .bool (decide (0 = 0)))∧(ls 4 = true→e 37 = .int .i64 (0))∧(ls 5 = true→e 38 = .bool (decide (0 = 0)))∧(ls 6 = true→e 39 = .bool (decide (0 = 0)))∧(ls 7 = true→e 40 = .bool (decide (0 = 0)))∧(ls 8 = true→e 41 = .agg #[S ((qR xa xb).1),S ((qR xa xb).2),S ((qR ya yb).1),S ((qR ya yb).2)])∧(ls 9 = true→e 42 = .bool ((decide (cmpI (xa * yb) (ya * xb)≤0))))∧(ls 10 = true→e 43 = .bool ((decide (cmpI (xa * yb) (ya * xb)≤0))))∧(Blk W (w.heap.size) 27 #[.int .i64 kd,S ((qR la lb).1),S ((qR la lb).2),S ((qR ha hb).1),S ((qR ha hb).2),S ((qR ga gb).1),S ((qR ga gb).2),S ((qR ra rb).1),S ((qR ra rb).2)])∧(Blk W (gi.heap.size) 44 #[S ((qR xa xb).1),S ((qR xa xb).2),S ((qR ya yb).1),S ((qR ya yb).2)])∧(Blk W (ik) 116 #[.func (.func f1) #[] #[],.func (.func f2) #[] #[]])) ⟨(fun _ _=>rfl),(xt ac ir),(bz ir),(ff rfl),(ff rfl),(ff rfl),(ff rfl),(ff rfl),(ff rfl),(ff rfl),(ff rfl),(ff rfl),(ff rfl),(ff rfl),(be ir gd),(be ir mm),(be ir gh)⟩ (by kernel_rfl) (by kernel_rfl) ?_ ?_;refine ⟨fun uw ux mo mu mv mw uy=>?_,?_⟩
 obtain ⟨kg,ac,zst,fk,fm,fo,fh,fp,fq,fw,fj,f6,f7,gc,fe,co,fg⟩:=mu;obtain ⟨uw,rfl⟩:=ovE kg;have uz : mo 11 = false:=(unl mv (i:=0) (j:=11) rfl mw);have u3:=bz ac;refine go ?_;exact ⟨rfl,_,(act_put _ _ _ _ _).symm,(same_upd rfl kg),ac,om,(fun _=>rfl),fm,fo,fh,fp,fq,fw,fj,f6,f7,gc,(fe),(co),(fg)⟩;refine ⟨fun u4 u5 gj mx gk my u6=>?_,?_⟩;obtain ⟨kh,ac,zst,fk,fm,fo,fh,fp,fq,fw,fj,f6,f7,gc,fe,co,fg⟩:=mx;obtain ⟨u4,rfl⟩:=ovE kh;have mz : gj 2 = false:=(unl gk (i:=1) (j:=2) rfl my);have jc : gj 3 = false:=(unl gk (i:=2) (j:=3) rfl mz);have u7 : gj 4 = false:=(unl gk (i:=3) (j:=4) rfl jc);have u9 : gj 5 = false:=(unl gk (i:=3) (j:=5) rfl jc);have vd : gj 6 = false:=(unl gk (i:=3) (j:=6) rfl jc);have jk : gj 7 = false:=(unl gk (i:=3) (j:=7) rfl jc);have m5 : gj 8 = false:=(unl gk (i:=7) (j:=8) rfl jk);have ve : gj 9 = false:=(unl gk (i:=7) (j:=9) rfl jk);have vg : gj 10 = false:=(unl gk (i:=7) (j:=10) rfl jk);have vh : gj 11 = false:=(unl gk (i:=8) (j:=11) rfl m5);have vi:=bz ac;refine go ?_;exact ⟨rfl,_,(act_put _ _ _ _ _).symm,(same_upd rfl kh),ac,om,fk,(fun _=>rfl),fo,fh,fp,fq,fw,fj,f6,f7,gc,(fe),(co),(fg)⟩;refine ⟨fun m6 vj gl m7 g6 m8 m9=>?_,?_⟩;obtain ⟨nc,ac,zst,fk,fm,fo,fh,fp,fq,fw,fj,f6,f7,gc,fe,co,fg⟩:=m7;obtain ⟨m6,rfl⟩:=ovE nc;have nd : gl 1 = true:=(m9 1 rfl)
 have jd : gl 3 = false:=(unl g6 (i:=2) (j:=3) rfl m8);have vk : gl 4 = false:=(unl g6 (i:=3) (j:=4) rfl jd);have vl : gl 5 = false:=(unl g6 (i:=3) (j:=5) rfl jd);have vm : gl 6 = false:=(unl g6 (i:=3) (j:=6) rfl jd);have jl : gl 7 = false:=(unl g6 (i:=3) (j:=7) rfl jd);have nf : gl 8 = false:=(unl g6 (i:=7) (j:=8) rfl jl);have vn : gl 9 = false:=(unl g6 (i:=7) (j:=9) rfl jl);have vo : gl 10 = false:=(unl g6 (i:=7) (j:=10) rfl jl);have vq : gl 11 = false:=(unl g6 (i:=8) (j:=11) rfl nf);have nh : m6 34 = .int .i64 (0):=fm nd;have vr:=bz ac;refine go ?_;exact ⟨rfl,_,(act_put _ _ _ _ _).symm,(same_upd rfl nc),ac,om,fk,fm,(fun _=>rfl),fh,fp,fq,fw,fj,f6,f7,gc,(fe),(co),(fg)⟩;refine ⟨fun ni vt gm nj g7 je nk=>?_,?_⟩;obtain ⟨nl,ac,zst,fk,fm,fo,fh,fp,fq,fw,fj,f6,f7,gc,fe,co,fg⟩:=nj;obtain ⟨ni,rfl⟩:=ovE nl;have ki : gm 2 = true:=(nk 2 rfl);have vu : gm 1 = true:=(g7 2 1 rfl ki);have vw : gm 4 = false:=(unl g7 (i:=3) (j:=4) rfl je);have vx : gm 5 = false:=(unl g7 (i:=3) (j:=5) rfl je);have vy : gm 6 = false:=(unl g7 (i:=3) (j:=6) rfl je);have jm : gm 7 = false:=(unl g7 (i:=3) (j:=7) rfl je);have nn : gm 8 = false:=(unl g7 (i:=7) (j:=8) rfl jm);have vz : gm 9 = false:=(unl g7 (i:=7) (j:=9) rfl jm);have v8 : gm 10 = false:=(unl g7 (i:=7) (j:=10) rfl jm);have wc : gm 11 = false:=(unl g7 (i:=8) (j:=11) rfl nn)
 have nu : ni 35 = .bool (decide (0 = 0)):=fo ki;have wd:=bz ac;refine go ?_;exact ⟨rfl,_,(act_put _ _ _ _ _).symm,(same_upd rfl nl),ac,om,fk,fm,fo,(fun _=>rfl),fp,fq,fw,fj,f6,f7,gc,(fe),(co),(fg)⟩;refine ⟨fun nw we gp nz g8 n4 n6=>?_,?_⟩;obtain ⟨kj,ac,zst,fk,fm,fo,fh,fp,fq,fw,fj,f6,f7,gc,fe,co,fg⟩:=nz;obtain ⟨nw,rfl⟩:=ovE kj;have km : gp 3 = true:=(n6 3 rfl);have n7 : gp 2 = true:=(g8 3 2 rfl km);have wg : gp 1 = true:=(g8 2 1 rfl n7);have n8 : gp 5 = false:=(unl g8 (i:=4) (j:=5) rfl n4);have n9 : gp 6 = false:=(unl g8 (i:=5) (j:=6) rfl n8);have jn : gp 7 = false:=(unl g8 (i:=6) (j:=7) rfl n9);have oa : gp 8 = false:=(unl g8 (i:=7) (j:=8) rfl jn);have wh : gp 9 = false:=(unl g8 (i:=7) (j:=9) rfl jn);have wi : gp 10 = false:=(unl g8 (i:=7) (j:=10) rfl jn);have wj : gp 11 = false:=(unl g8 (i:=8) (j:=11) rfl oa);have oc : nw 36 = .bool (decide (0 = 0)):=fh km;have wk:=bz ac;refine go ?_;exact ⟨rfl,_,(act_put _ _ _ _ _).symm,(same_upd rfl kj),ac,om,fk,fm,fo,fh,(fun _=>rfl),fq,fw,fj,f6,f7,gc,(fe),(co),(fg)⟩;refine ⟨fun kn wl gq oe ie og ko=>?_,?_⟩;obtain ⟨oh,ac,zst,fk,fm,fo,fh,fp,fq,fw,fj,f6,f7,gc,fe,co,fg⟩:=oe;obtain ⟨kn,rfl⟩:=ovE oh;have kp : gq 3 = true:=(ko 3 rfl);have oi : gq 2 = true:=(ie 3 2 rfl kp);have wm : gq 1 = true:=(ie 2 1 rfl oi);have ol : gq 4 = true:=(ko 4 rfl)
 have ot : gq 6 = false:=(unl ie (i:=5) (j:=6) rfl og);have jo : gq 7 = false:=(unl ie (i:=6) (j:=7) rfl ot);have ou : gq 8 = false:=(unl ie (i:=7) (j:=8) rfl jo);have wn : gq 9 = false:=(unl ie (i:=7) (j:=9) rfl jo);have wo : gq 10 = false:=(unl ie (i:=7) (j:=10) rfl jo);have wp : gq 11 = false:=(unl ie (i:=8) (j:=11) rfl ou);have ow : kn 36 = .bool (decide (0 = 0)):=fh kp;have ox : kn 37 = .int .i64 (0):=fp ol;have ws:=bz ac;refine go ?_;exact ⟨rfl,_,(act_put _ _ _ _ _).symm,(same_upd rfl oh),ac,om,fk,fm,fo,fh,fp,(fun _=>rfl),fw,fj,f6,f7,gc,(fe),(co),(fg)⟩;refine ⟨fun kq wt gu oy g9 oz o0=>?_,?_⟩;obtain ⟨o5,ac,zst,fk,fm,fo,fh,fp,fq,fw,fj,f6,f7,gc,fe,co,fg⟩:=oy;obtain ⟨kq,rfl⟩:=ovE o5;have jp : gu 5 = true:=(o0 5 rfl);have kr : gu 3 = true:=(g9 5 3 rfl jp);have o6 : gu 2 = true:=(g9 3 2 rfl kr);have wu : gu 1 = true:=(g9 2 1 rfl o6);have wv : gu 4 = true:=(g9 5 4 rfl jp);have jq : gu 7 = false:=(unl g9 (i:=6) (j:=7) rfl oz);have o7 : gu 8 = false:=(unl g9 (i:=7) (j:=8) rfl jq);have ww : gu 9 = false:=(unl g9 (i:=7) (j:=9) rfl jq);have wx : gu 10 = false:=(unl g9 (i:=7) (j:=10) rfl jq);have wy : gu 11 = false:=(unl g9 (i:=8) (j:=11) rfl o7);have o8 : kq 36 = .bool (decide (0 = 0)):=fh kr;have o9 : kq 38 = .bool (decide (0 = 0)):=fq jp;have xc:=bz ac;refine go ?_
 exact ⟨rfl,_,(act_put _ _ _ _ _).symm,(same_upd rfl o5),ac,om,fk,fm,fo,fh,fp,fq,(fun _=>rfl),fj,f6,f7,gc,(fe),(co),(fg)⟩;refine ⟨fun pc xd gv pf ig jr ks=>?_,?_⟩;obtain ⟨pg,ac,zst,fk,fm,fo,fh,fp,fq,fw,fj,f6,f7,gc,fe,co,fg⟩:=pf;obtain ⟨pc,rfl⟩:=ovE pg;have pj : gv 3 = true:=(ks 3 rfl);have pm : gv 2 = true:=(ig 3 2 rfl pj);have xe : gv 1 = true:=(ig 2 1 rfl pm);have kt : gv 6 = true:=(ks 6 rfl);have pn : gv 5 = true:=(ig 6 5 rfl kt);have xf : gv 4 = true:=(ig 5 4 rfl pn);have po : gv 8 = false:=(unl ig (i:=7) (j:=8) rfl jr);have xg : gv 9 = false:=(unl ig (i:=7) (j:=9) rfl jr);have xh : gv 10 = false:=(unl ig (i:=7) (j:=10) rfl jr);have xi : gv 11 = false:=(unl ig (i:=8) (j:=11) rfl po);have pp : pc 39 = .bool (decide (0 = 0)):=fw kt;have xj:=bz ac;refine go ?_;exact ⟨rfl,_,(act_put _ _ _ _ _).symm,(same_upd rfl pg),ac,om,fk,fm,fo,fh,fp,fq,fw,(fun _=>rfl),f6,f7,gc,(fe),(co),(fg)⟩;refine ⟨fun pq xk gw pr ia ku pt=>?_,?_⟩;obtain ⟨kv,ac,zst,fk,fm,fo,fh,fp,fq,fw,fj,f6,f7,gc,fe,co,fg⟩:=pr;obtain ⟨pq,rfl⟩:=ovE kv;have js : gw 7 = true:=(pt 7 rfl);have pu : gw 3 = true:=(ia 7 3 rfl js);have pw : gw 2 = true:=(ia 3 2 rfl pu);have xl : gw 1 = true:=(ia 2 1 rfl pw);have px : gw 6 = true:=(ia 7 6 rfl js);have py : gw 5 = true:=(ia 6 5 rfl px);have xm : gw 4 = true:=(ia 5 4 rfl py);have p0 : gw 9 = false:=(unl ia (i:=8) (j:=9) rfl ku)
 have xn : gw 11 = false:=(unl ia (i:=8) (j:=11) rfl ku);have xo : gw 10 = false:=(unl ia (i:=9) (j:=10) rfl p0);have p7 : pq 40 = .bool (decide (0 = 0)):=fj js;have xp:=bz ac;refine go ?_;exact ⟨rfl,_,(act_put _ _ _ _ _).symm,(same_upd rfl kv),ac,om,fk,fm,fo,fh,fp,fq,fw,fj,(fun _=>rfl),f7,gc,(fe),(co),(fg)⟩;refine ⟨fun kw xq gy p9 ii ky kz=>?_,?_⟩;obtain ⟨qa,ac,zst,fk,fm,fo,fh,fp,fq,fw,fj,f6,f7,gc,fe,co,fg⟩:=p9;obtain ⟨kw,rfl⟩:=ovE qa;have jt : gy 7 = true:=(kz 7 rfl);have qb : gy 3 = true:=(ii 7 3 rfl jt);have qc : gy 2 = true:=(ii 3 2 rfl qb);have xr : gy 1 = true:=(ii 2 1 rfl qc);have qd : gy 6 = true:=(ii 7 6 rfl jt);have qe : gy 5 = true:=(ii 6 5 rfl qd);have xu : gy 4 = true:=(ii 5 4 rfl qe);have qg : gy 8 = true:=(kz 8 rfl);have xv : gy 10 = false:=(unl ii (i:=9) (j:=10) rfl ky);have xw : gy 11 = false:=(unl ii (i:=9) (j:=11) rfl ky);have qh : kw 40 = .bool (decide (0 = 0)):=fj jt;have qj : kw 41 = .agg #[S ((qR xa xb).1),S ((qR xa xb).2),S ((qR ya yb).1),S ((qR ya yb).2)]:=f6 qg;have xx:=bz ac;have ld:=bt fe;have lg:=bt co;have lh:=bt fg;refine go ?_;refine cl en1056 (encValidG_ok qx qy (ht.ext ac)) ?_ (cons_eq qj rfl);rintro xy xz jf rfl;have ⟨fe,co,fg,ac⟩:=be3 jf.2 fe co fg ac;refine go ?_;exact ⟨rfl,_,(act_put _ _ _ _ _).symm,(same_upd rfl qa),ac,om,fk,fm,fo,fh,fp,fq,fw,fj,f6,(fun _=>rfl),gc,(fe),(co),(fg)⟩
 refine ⟨fun li x4 ic qk ij x5 ql=>?_,?_⟩;obtain ⟨qm,ac,zst,fk,fm,fo,fh,fp,fq,fw,fj,f6,f7,gc,fe,co,fg⟩:=qk;obtain ⟨li,rfl⟩:=ovE qm;have ju : ic 9 = true:=(ql 9 rfl);have jv : ic 7 = true:=(ij 9 7 rfl ju);have qn : ic 3 = true:=(ij 7 3 rfl jv);have qo : ic 2 = true:=(ij 3 2 rfl qn);have x6 : ic 1 = true:=(ij 2 1 rfl qo);have qq : ic 6 = true:=(ij 7 6 rfl jv);have qr : ic 5 = true:=(ij 6 5 rfl qq);have x7 : ic 4 = true:=(ij 5 4 rfl qr);have x8 : ic 8 = true:=(ij 9 8 rfl ju);have q5 : li 40 = .bool (decide (0 = 0)):=fj jv;have q6 : li 42 = .bool ((decide (cmpI (xa * yb) (ya * xb)≤0))):=f7 ju;have x9:=bz ac;refine go ?_;exact ⟨rfl,_,(act_put _ _ _ _ _).symm,(same_upd rfl qm),ac,om,fk,fm,fo,fh,fp,fq,fw,fj,f6,f7,(fun _=>rfl),(fe),(co),(fg)⟩;refine ⟨fun q7 yc gz q8 il yd jw=>?_,?_⟩;obtain ⟨lj,ac,zst,fk,fm,fo,fh,fp,fq,fw,fj,f6,f7,gc,fe,co,fg⟩:=q8;obtain ⟨q7,rfl⟩:=ovE lj;have q9 : gz 8 = true:=(jw 8 rfl);have lk : gz 7 = true:=(il 8 7 rfl q9);have rd : gz 3 = true:=(il 7 3 rfl lk);have re : gz 2 = true:=(il 3 2 rfl rd);have ye : gz 1 = true:=(il 2 1 rfl re);have rh : gz 6 = true:=(il 7 6 rfl lk);have ri : gz 5 = true:=(il 6 5 rfl rh);have yf : gz 4 = true:=(il 5 4 rfl ri);have rj : gz 0 = true:=(jw 0 rfl);have yg : gz 9 = true:=(jw 9 rfl);have rk : q7 33 = .agg #[S ((qR xa xb).1),S ((qR xa xb).2),S ((qR ya yb).1),S ((qR ya yb).2)]:=fk rj;have yh:=bz ac
 have ld:=bt fe;have lg:=bt co;have lh:=bt fg;refine SA co (fun yi jg rm=>?_);have ⟨fe,fg,ac,yj⟩:=pl2 jg fe fg ac;refine go ?_;exact ⟨rfl,undef,rfl,lj,ac,om,fk,fm,fo,fh,fp,fq,fw,fj,f6,f7,gc,(fe),(rm),(fg)⟩;exact trivial;intro rp yl ym rq rr;obtain ⟨rt,ac,zst,fk,fm,fo,fh,fp,fq,fw,fj,f6,f7,gc,fe,co,fg⟩:=rr;obtain ⟨rp,rfl⟩:=ovE rt;have yn:=bz ac;have ld:=bt fe;have lg:=bt co;have lh:=bt fg;have ru : rp 43 = .bool ((decide (cmpI (xa * yb) (ya * xb)≤0))):=(gc (rq 10 rfl));refine go ?_;refine f_out (v:=.tuple #[.agg #[S ((qR xa xb).1),S ((qR xa xb).2),S ((qR ya yb).1),S ((qR ya yb).2)],.bool ((decide (cmpI (xa * yb) (ya * xb)≤0)))]) (res2 (r1:=.cell 2 44) (r2:=.tmp 3) rfl ?_ ?_) ac rfl;refine res_cellA (t:=2) (cs:=[S ((qR xa xb).1),S ((qR xa xb).2),S ((qR ya yb).1),S ((qR ya yb).2)]) (b:=gi.heap.size) (o:=0) U1032 rfl sz1032 ?_ ?_;exact rfl;exact Blk.cells co (i:=0) rfl;exact res_tmp (t:=3) (by exact rfl) _
theorem q1l1 : Q9 1 1:=⟨by decide,by decide,by decide⟩
set_option maxRecDepth 100000 in
theorem valid_ok {kd : Nat} {la lb ha hb ga gb ra rb xa xb ya yb : Int} {qv : Bool} {w : World} (k1 : 1 ≤ kd) (k3 : kd ≤ 3) (ql : Q9 la lb) (qh : Q9 ha hb) (qg : Q9 ga gb) (qr : Q9 ra rb) (sl1 : la.natAbs < 10 ^ 12) (sl2 : lb < 10 ^ 12) (sh1 : ha.natAbs < 10 ^ 12) (sh2 : hb < 10 ^ 12) (sg1 : ga.natAbs < 10 ^ 12) (sg2 : gb < 10 ^ 12) (sr1 : ra.natAbs < 10 ^ 12) (sr2 : rb < 10 ^ 12) (hng : neg (qR ga gb).1 = false) (hnr : neg (qR ra rb).1 = false) (hg0 : kd = 1 → (qR ga gb).1 = [48]) (hr1 : cmpI (ra * 1) (1 * rb) ≤ 0) (hlh : cmpI (la * hb) (ha * lb) < 0) (hA : ∀ W, Tb W → Calls Tryz.prog 45 #[.agg #[.int .i64 kd, S ((qR la lb).1), S ((qR la lb).2), S ((qR ha hb).1), S ((qR ha hb).2), S ((qR ga gb).1), S ((qR ga gb).2), S ((qR ra rb).1), S ((qR ra rb).2)]] W (Ret W fun v _ => v = .tuple #[.agg #[S ((qR xa xb).1), S ((qR xa xb).2), S ((qR ya yb).1), S ((qR ya yb).2)], .bool qv])) (ht : Tb w) :
    Calls Tryz.prog 24 #[.agg #[.int .i64 kd,S ((qR la lb).1),S ((qR la lb).2),S ((qR ha hb).1),S ((qR ha hb).2),S ((qR ga gb).1),S ((qR ga gb).2),S ((qR ra rb).1),S ((qR ra rb).2)]] w (Ret w fun v w'=>v = .bool qv):=by
 refine f_in Tryz.func24 rfl ?_;refine go ?_;refine bx (fun gw gm ac=>?_);have co:=gm.2;refine go ?_;refine l_op (k_fieldAddr (b:=w.heap.size) (o:=0) (off:=0) (oo:=0) U2027 rfl rfl sz3 rfl rfl ?_);refine go ?_;refine l_op (k_fieldAddr (b:=w.heap.size) (o:=0) (off:=0) (oo:=0) U2027 rfl rfl sz3 rfl rfl ?_);refine go ?_;refine l_op (k_fieldAddr (b:=w.heap.size) (o:=0) (off:=1) (oo:=1) U2027 rfl rfl sz36 rfl rfl ?_);refine go ?_;refine cl en2051 (dshort_ok rfl ql sl1 sl2 (ht.ext co)) ?_;rintro gy gz fj rfl;have ⟨ac,co⟩:=be1 fj.2 ac co;refine go ?_;refine l_op (k_fieldAddr (b:=w.heap.size) (o:=0) (off:=3) (oo:=3) U2027 rfl rfl sz36 rfl rfl ?_);refine go ?_;refine cl en2051 (dshort_ok rfl qh sh1 sh2 (ht.ext co)) ?_;rintro g6 g7 fk rfl;have ⟨ac,co⟩:=be1 fk.2 ac co;refine go ?_;refine l_op (k_fieldAddr (b:=w.heap.size) (o:=0) (off:=5) (oo:=5) U2027 rfl rfl sz36 rfl rfl ?_);refine go ?_;refine cl en2051 (dshort_ok rfl qg sg1 sg2 (ht.ext co)) ?_;rintro g8 g9 fm rfl;have ⟨ac,co⟩:=be1 fm.2 ac co;refine go ?_;refine l_op (k_fieldAddr (b:=w.heap.size) (o:=0) (off:=7) (oo:=7) U2027 rfl rfl sz36 rfl rfl ?_);refine go ?_;refine cl en2051 (dshort_ok rfl qr sr1 sr2 (ht.ext co)) ?_;rintro ia ic fo rfl;have ⟨ac,co⟩:=be1 fo.2 ac co;refine go ?_;by_cases fe : (kd : Int) = 1;refine go ?_;refine l_op (k_fieldAddr (b:=w.heap.size) (o:=0) (off:=5) (oo:=5) U2027 rfl rfl sz36 rfl rfl ?_);refine go ?_
 refine cl en2052 (cB (negative_ok (qR_len rfl qg)) hng) ?_;rintro ie ig fp rfl;have ⟨ac,co⟩:=be1 fp.2 ac co;refine go ?_;refine l_op (k_fieldAddr (b:=w.heap.size) (o:=0) (off:=0) (oo:=0) U2027 rfl rfl sz3 rfl rfl ?_);refine go ?_;refine l_op (k_fieldAddr (b:=w.heap.size) (o:=0) (off:=5) (oo:=5) U2027 rfl rfl sz36 rfl rfl ?_);refine go ?_;refine nes (b:=[48]) ?_;refine go ?_;refine c_false (congrArg Value.bool (congrArg Bool.not (decide_eq_true (hg0 om)))) ?_;refine go ?_;refine l_op (k_fieldAddr (b:=w.heap.size) (o:=0) (off:=7) (oo:=7) U2027 rfl rfl sz36 rfl rfl ?_);refine go ?_;refine cl en2052 (cB (negative_ok (qR_len rfl qr)) hnr) ?_;rintro ii ij fq rfl;have ⟨ac,co⟩:=be1 fq.2 ac co;refine go ?_;refine l_op (k_fieldAddr (b:=w.heap.size) (o:=0) (off:=7) (oo:=7) U2027 rfl rfl sz36 rfl rfl ?_);refine go ?_;refine cl en49 (qCmpX qr q1l1 (ht.ext co)) ?_;rintro ik il fw rfl;have ⟨ac,co⟩:=be1 fw.2 ac co;refine go ?_;refine l_op (k_fieldAddr (b:=w.heap.size) (o:=0) (off:=1) (oo:=1) U2027 rfl rfl sz36 rfl rfl ?_);refine go ?_;refine l_op (k_fieldAddr (b:=w.heap.size) (o:=0) (off:=3) (oo:=3) U2027 rfl rfl sz36 rfl rfl ?_);refine go ?_;refine cl en49 (qCmpX ql qh (ht.ext co)) ?_;rintro im io f6 rfl;have ⟨ac,co⟩:=be1 f6.2 ac co;refine go ?_
 refine l_op (k_loadA (cs:=[.int .i64 kd,S ((qR la lb).1),S ((qR la lb).2),S ((qR ha hb).1),S ((qR ha hb).2),S ((qR ga gb).1),S ((qR ga gb).2),S ((qR ra rb).1),S ((qR ra rb).2)]) (b:=w.heap.size) (o:=0) U2027 rfl sz2027 rfl (Blk.cells ac (i:=0) rfl) ?_);refine cl en2045 ((hA _ (ht.ext co))) ?_;rintro ip gp f7 rfl;have ⟨ac,co⟩:=be1 f7.2 ac co;refine go ?_;refine al inf1032 (fun iq gc gq=>?_);have ⟨ac,co⟩:=be1 gc.2 ac co;refine SA gq (fun ir fg iu=>?_);have ⟨ac,co,iv⟩:=pl1 fg ac co;refine go ?_;exact f_ret1 (t:=2) (v:=.bool (qv)) rfl co rfl rfl;refine go ?_;refine l_op (k_fieldAddr (b:=w.heap.size) (o:=0) (off:=5) (oo:=5) U2027 rfl rfl sz36 rfl rfl ?_);refine go ?_;refine cl en2052 (cB (negative_ok (qR_len rfl qg)) hng) ?_;rintro iw ix gd rfl;have ⟨ac,co⟩:=be1 gd.2 ac co;refine go ?_;refine l_op (k_fieldAddr (b:=w.heap.size) (o:=0) (off:=0) (oo:=0) U2027 rfl rfl sz3 rfl rfl ?_);refine go ?_;refine l_op (k_fieldAddr (b:=w.heap.size) (o:=0) (off:=7) (oo:=7) U2027 rfl rfl sz36 rfl rfl ?_);refine go ?_;refine cl en2052 (cB (negative_ok (qR_len rfl qr)) hnr) ?_;rintro iy iz gh rfl;have ⟨ac,co⟩:=be1 gh.2 ac co;refine go ?_;refine l_op (k_fieldAddr (b:=w.heap.size) (o:=0) (off:=7) (oo:=7) U2027 rfl rfl sz36 rfl rfl ?_);refine go ?_;refine cl en49 (qCmpX qr q1l1 (ht.ext co)) ?_;rintro ja jb gi rfl;have ⟨ac,co⟩:=be1 gi.2 ac co;refine go ?_
 refine l_op (k_fieldAddr (b:=w.heap.size) (o:=0) (off:=1) (oo:=1) U2027 rfl rfl sz36 rfl rfl ?_);refine go ?_;refine l_op (k_fieldAddr (b:=w.heap.size) (o:=0) (off:=3) (oo:=3) U2027 rfl rfl sz36 rfl rfl ?_);refine go ?_;refine cl en49 (qCmpX ql qh (ht.ext co)) ?_;rintro jc jd gj rfl;have ⟨ac,co⟩:=be1 gj.2 ac co;refine go ?_;refine l_op (k_loadA (cs:=[.int .i64 kd,S ((qR la lb).1),S ((qR la lb).2),S ((qR ha hb).1),S ((qR ha hb).2),S ((qR ga gb).1),S ((qR ga gb).2),S ((qR ra rb).1),S ((qR ra rb).2)]) (b:=w.heap.size) (o:=0) U2027 rfl sz2027 rfl (Blk.cells ac (i:=0) rfl) ?_);refine cl en2045 ((hA _ (ht.ext co))) ?_;rintro je gu gk rfl;have ⟨ac,co⟩:=be1 gk.2 ac co;refine go ?_;refine al inf1032 (fun jf gl gv=>?_);have ⟨ac,co⟩:=be1 gl.2 ac co;refine SA gv (fun jg fh jh=>?_);have ⟨ac,co,ji⟩:=pl1 fh ac co;refine go ?_;exact f_ret1 (t:=2) (v:=.bool (qv)) rfl co rfl rfl
set_option maxRecDepth 100000
theorem acceptT_ok {kd : Nat} {la lb ha hb ga gb ra rb xa xb ya yb : Int} {qv : Bool} {w : World} (hV : ∀ W, Tb W → Calls Tryz.prog 24 #[.agg #[.int .i64 kd, S ((qR la lb).1), S ((qR la lb).2), S ((qR ha hb).1), S ((qR ha hb).2), S ((qR ga gb).1), S ((qR ga gb).2), S ((qR ra rb).1), S ((qR ra rb).2)]] W (Ret W fun v _ => v = .bool true)) (hA : ∀ W, Tb W → Calls Tryz.prog 45 #[.agg #[.int .i64 kd, S ((qR la lb).1), S ((qR la lb).2), S ((qR ha hb).1), S ((qR ha hb).2), S ((qR ga gb).1), S ((qR ga gb).2), S ((qR ra rb).1), S ((qR ra rb).2)]] W (Ret W fun v _ => v = .tuple #[.agg #[S ((qR xa xb).1), S ((qR xa xb).2), S ((qR ya yb).1), S ((qR ya yb).2)], .bool qv])) (ht : Tb w) :
    Calls Tryz.prog 20 #[.agg #[.int .i64 kd,S ((qR la lb).1),S ((qR la lb).2),S ((qR ha hb).1),S ((qR ha hb).2),S ((qR ga gb).1),S ((qR ga gb).2),S ((qR ra rb).1),S ((qR ra rb).2)]] w (Ret w fun v w'=>v = .tuple #[.agg #[S ((qR xa xb).1),S ((qR xa xb).2),S ((qR ya yb).1),S ((qR ya yb).2)],.int .i64 0]):=by
 refine f_in Tryz.func20 rfl ?_;refine go ?_;refine bx (fun fp f6 co=>?_);have ac:=f6.2;refine al inf1032 (fun gd fq fe=>?_);have ⟨co,ac⟩:=be1 fq.2 co ac;refine go ?_;refine l_op (k_loadA (cs:=[.int .i64 kd,S ((qR la lb).1),S ((qR la lb).2),S ((qR ha hb).1),S ((qR ha hb).2),S ((qR ga gb).1),S ((qR ga gb).2),S ((qR ra rb).1),S ((qR ra rb).2)]) (b:=w.heap.size) (o:=0) U2027 rfl sz2027 rfl (Blk.cells co (i:=0) rfl) ?_);refine cl en2024 ((hV _ (ht.ext ac))) ?_;rintro gh gi fj rfl;have ⟨co,fe,ac⟩:=be2 fj.2 co fe ac;refine go ?_;refine l_op (k_loadA (cs:=[.int .i64 kd,S ((qR la lb).1),S ((qR la lb).2),S ((qR ha hb).1),S ((qR ha hb).2),S ((qR ga gb).1),S ((qR ga gb).2),S ((qR ra rb).1),S ((qR ra rb).2)]) (b:=w.heap.size) (o:=0) U2027 rfl sz2027 rfl (Blk.cells co (i:=0) rfl) ?_);refine cl en2045 ((hA _ (ht.ext ac))) ?_;rintro gj fw fk rfl;have ⟨co,fe,ac⟩:=be2 fk.2 co fe ac;refine go ?_;refine al inf1032 (fun gk fm f7=>?_);have ⟨co,fe,ac⟩:=be2 fm.2 co fe ac;refine SA f7 (fun gl fg fo=>?_);have ⟨co,fe,ac,gm⟩:=pl2 fg co fe ac;refine go ?_;refine l_op (k_loadA (cs:=[S ((qR xa xb).1),S ((qR xa xb).2),S ((qR ya yb).1),S ((qR ya yb).2)]) (b:=fw.heap.size) (o:=0) U1032 rfl sz1032 rfl (Blk.cells fo (i:=0) rfl) ?_);refine SA fe (fun gp fh gc=>?_);have ⟨co,fo,ac,gq⟩:=pl2 fh co fo ac;refine go ?_
 refine f_out (v:=.tuple #[.agg #[S ((qR xa xb).1),S ((qR xa xb).2),S ((qR ya yb).1),S ((qR ya yb).2)],.int .i64 (0)]) (res2 (r1:=.cell 2 44) (r2:=.tmp 3) rfl ?_ ?_) ac rfl;refine res_cellA (t:=2) (cs:=[S ((qR xa xb).1),S ((qR xa xb).2),S ((qR ya yb).1),S ((qR ya yb).2)]) (b:=fp.heap.size) (o:=0) U1032 rfl sz1032 ?_ ?_;exact rfl;exact Blk.cells gc (i:=0) rfl;exact res_tmp (t:=3) (by exact rfl) _
theorem acceptF_ok {kd : Nat} {la lb ha hb ga gb ra rb xa xb ya yb : Int} {qv : Bool} {w : World} (hV : ∀ W, Tb W → Calls Tryz.prog 24 #[.agg #[.int .i64 kd, S ((qR la lb).1), S ((qR la lb).2), S ((qR ha hb).1), S ((qR ha hb).2), S ((qR ga gb).1), S ((qR ga gb).2), S ((qR ra rb).1), S ((qR ra rb).2)]] W (Ret W fun v _ => v = .bool false))  (ht : Tb w) :
    Calls Tryz.prog 20 #[.agg #[.int .i64 kd,S ((qR la lb).1),S ((qR la lb).2),S ((qR ha hb).1),S ((qR ha hb).2),S ((qR ga gb).1),S ((qR ga gb).2),S ((qR ra rb).1),S ((qR ra rb).2)]] w (Ret w fun v w'=>v = .tuple #[.agg #[S [],S [],S [],S []],.int .i64 160]):=by
 refine f_in Tryz.func20 rfl ?_;refine go ?_;refine bx (fun fj fm co=>?_);have ac:=fm.2;refine al inf1032 (fun fp fk fe=>?_);have ⟨co,ac⟩:=be1 fk.2 co ac;refine go ?_;refine l_op (k_loadA (cs:=[.int .i64 kd,S ((qR la lb).1),S ((qR la lb).2),S ((qR ha hb).1),S ((qR ha hb).2),S ((qR ga gb).1),S ((qR ga gb).2),S ((qR ra rb).1),S ((qR ra rb).2)]) (b:=w.heap.size) (o:=0) U2027 rfl sz2027 rfl (Blk.cells co (i:=0) rfl) ?_);refine cl en2024 ((hV _ (ht.ext ac))) ?_;rintro fq fw fg rfl;have ⟨co,fe,ac⟩:=be2 fg.2 co fe ac;refine go ?_;refine SA fe (fun f6 fh fo=>?_);have ⟨co,ac,f7⟩:=pl1 fh co ac;refine go ?_;refine f_out (v:=.tuple #[.agg #[S ([]),S ([]),S ([]),S ([])],.int .i64 (160)]) (res2 (r1:=.cell 2 44) (r2:=.tmp 3) rfl ?_ ?_) ac rfl;refine res_cellA (t:=2) (cs:=[S ([]),S ([]),S ([]),S ([])]) (b:=fj.heap.size) (o:=0) U1032 rfl sz1032 ?_ ?_;exact rfl;exact Blk.cells fo (i:=0) rfl;exact res_tmp (t:=3) (by exact rfl) _
theorem and_tt {p q : Prop} [Decidable p] [Decidable q] (h : p) : Value.bool (decide q) = Value.bool (decide p && decide q):=by rw [decide_eq_true h]; rfl
theorem and_ff {p q : Prop} [Decidable p] [Decidable q] (h : ¬ p) : Value.bool false = Value.bool (decide p && decide q):=by rw [decide_eq_false h]; rfl
theorem encContainsG_ok {a b c d m n : Int} {w : World} (q1 : Q9 a b) (q2 : Q9 c d) (q : Q9 m n) (hV : cmpI (a * d) (c * b)≤0) (ht : Tb w) :
    Calls Tryz.prog 21 #[.agg #[S ((qR a b).1),S ((qR a b).2),S ((qR c d).1),S ((qR c d).2)],.agg #[S ((qR m n).1),S ((qR m n).2)]] w (Ret w fun v w'=>v = .bool (decide (cmpI (a * n) (m * b)≤0) && decide (cmpI (m * d) (c * n)≤0))):=by
 refine f_in Tryz.func21 rfl ?_;refine go ?_;refine bx (fun fh f7 co=>?_);have ac:=f7.2;refine bx (fun gc f6 fe=>?_);have ⟨co,ac⟩:=be1 f6.2 co ac;refine go ?_;by_cases fg : (cmpI (a * n) (m * b))≤0;refine go ?_;refine l_op (k_loadA (cs:=[S ((qR a b).1),S ((qR a b).2),S ((qR c d).1),S ((qR c d).2)]) (b:=w.heap.size) (o:=0) U1032 rfl sz1032 rfl (Blk.cells co (i:=0) rfl) ?_);refine cl en1056 (cB (encValidG_ok q1 q2 (ht.ext ac)) (decide_eq_true hV)) ?_;rintro gd gh fj rfl;have ⟨co,fe,ac⟩:=be2 fj.2 co fe ac;refine go ?_;refine cl en82 (cB (rValid_ok _ _ _ (ht.ext ac)) (okL (show ((qR m n).1,(qR m n).2) = qR m n from rfl) q)) ?_;rintro gi gj fk rfl;have ⟨co,fe,ac⟩:=be2 fk.2 co fe ac;refine go ?_;refine cl en49 (qCmpX q1 q (ht.ext ac)) ?_;rintro gk gl fm rfl;have ⟨co,fe,ac⟩:=be2 fm.2 co fe ac;refine go ?_;refine cl en49 (qCmpX q q2 (ht.ext ac)) ?_;rintro gm gp fo rfl;have ac:=xt ac fo.2;refine go ?_;exact f_ret1 (t:=4) (v:=.bool (decide ((cmpI (m * d) (c * n))≤0))) rfl ac (by first | exact and_tt (by assumption) | exact and_ff (by assumption)) rfl;refine go ?_;refine l_op (k_loadA (cs:=[S ((qR a b).1),S ((qR a b).2),S ((qR c d).1),S ((qR c d).2)]) (b:=w.heap.size) (o:=0) U1032 rfl sz1032 rfl (Blk.cells co (i:=0) rfl) ?_);refine cl en1056 (cB (encValidG_ok q1 q2 (ht.ext ac)) (decide_eq_true hV)) ?_;rintro gq gu fp rfl;have ⟨co,fe,ac⟩:=be2 fp.2 co fe ac;refine go ?_
 refine cl en82 (cB (rValid_ok _ _ _ (ht.ext ac)) (okL (show ((qR m n).1,(qR m n).2) = qR m n from rfl) q)) ?_;rintro gv gw fq rfl;have ⟨co,fe,ac⟩:=be2 fq.2 co fe ac;refine go ?_;refine cl en49 (qCmpX q1 q (ht.ext ac)) ?_;rintro gy gz fw rfl;have ac:=xt ac fw.2;refine go ?_;exact f_ret1 (t:=4) (v:=.bool (false)) rfl ac (by first | exact and_tt (by assumption) | exact and_ff (by assumption)) rfl
theorem rejectedT_ok {pa pb ua ub ra rb : Int} {w : World} (qp : Q9 pa pb) (qu : Q9 ua ub) (qr : Q9 ra rb) (ht : Tb w) :
    Calls Tryz.prog 30 #[.agg #[.bool (true),S ((qR pa pb).1),S ((qR pa pb).2),S ((qR ua ub).1),S ((qR ua ub).2),S ((qR ra rb).1),S ((qR ra rb).2)]] w (Ret w fun v w'=>v = .bool (decide (0 < cmpI (pa * rb) (ra * pb)))):=by
 refine f_in Tryz.func30 rfl ?_;refine go ?_;refine bx (fun fh fg ac=>?_);have co:=fg.2;refine go ?_;refine l_op (k_fieldAddr (b:=w.heap.size) (o:=0) (off:=0) (oo:=0) U2059 rfl rfl sz4 rfl rfl ?_);refine go ?_;refine l_op (k_fieldAddr (b:=w.heap.size) (o:=0) (off:=1) (oo:=1) U2059 rfl rfl sz1032 rfl rfl ?_);refine go ?_;refine l_op (k_fieldAddr (b:=w.heap.size) (o:=0) (off:=5) (oo:=5) U2059 rfl rfl sz36 rfl rfl ?_);refine go ?_;refine cl en49 (qCmpX qp qr (ht.ext co)) ?_;rintro fj fk fe rfl;have co:=xt co fe.2;refine go ?_;exact f_ret1 (t:=2) (v:=.bool (decide (0 < (cmpI (pa * rb) (ra * pb))))) rfl co rfl rfl
theorem rejectedF_ok {pa pb ua ub ra rb : Int} {w : World} (qp : Q9 pa pb) (qu : Q9 ua ub) (qr : Q9 ra rb) (ht : Tb w) :
    Calls Tryz.prog 30 #[.agg #[.bool (false),S ((qR pa pb).1),S ((qR pa pb).2),S ((qR ua ub).1),S ((qR ua ub).2),S ((qR ra rb).1),S ((qR ra rb).2)]] w (Ret w fun v w'=>v = .bool (true)):=by
 refine f_in Tryz.func30 rfl ?_;refine go ?_;refine bx (fun fg ac co=>?_);have fe:=ac.2;refine go ?_;refine l_op (k_fieldAddr (b:=w.heap.size) (o:=0) (off:=0) (oo:=0) U2059 rfl rfl sz4 rfl rfl ?_);refine go ?_;exact f_ret1 (t:=2) (v:=.bool (true)) rfl fe rfl rfl
theorem acceptedT_ok {pa pb ua ub ra rb : Int} {w : World} (qp : Q9 pa pb) (qu : Q9 ua ub) (qr : Q9 ra rb) (ht : Tb w) :
    Calls Tryz.prog 31 #[.agg #[.bool (true),S ((qR pa pb).1),S ((qR pa pb).2),S ((qR ua ub).1),S ((qR ua ub).2),S ((qR ra rb).1),S ((qR ra rb).2)]] w (Ret w fun v w'=>v = .bool (decide (cmpI (ua * rb) (ra * ub)≤0))):=by
 refine f_in Tryz.func31 rfl ?_;refine go ?_;refine bx (fun fh fg ac=>?_);have co:=fg.2;refine go ?_;refine l_op (k_fieldAddr (b:=w.heap.size) (o:=0) (off:=0) (oo:=0) U2059 rfl rfl sz4 rfl rfl ?_);refine go ?_;refine l_op (k_fieldAddr (b:=w.heap.size) (o:=0) (off:=1) (oo:=1) U2059 rfl rfl sz1032 rfl rfl ?_);refine go ?_;refine l_op (k_fieldAddr (b:=w.heap.size) (o:=0) (off:=5) (oo:=5) U2059 rfl rfl sz36 rfl rfl ?_);refine go ?_;refine cl en49 (qCmpX qu qr (ht.ext co)) ?_;rintro fj fk fe rfl;have co:=xt co fe.2;refine go ?_;exact f_ret1 (t:=2) (v:=.bool (decide ((cmpI (ua * rb) (ra * ub))≤0))) rfl co rfl rfl
theorem acceptedF_ok {pa pb ua ub ra rb : Int} {w : World} (qp : Q9 pa pb) (qu : Q9 ua ub) (qr : Q9 ra rb) (ht : Tb w) :
    Calls Tryz.prog 31 #[.agg #[.bool (false),S ((qR pa pb).1),S ((qR pa pb).2),S ((qR ua ub).1),S ((qR ua ub).2),S ((qR ra rb).1),S ((qR ra rb).2)]] w (Ret w fun v w'=>v = .bool (false)):=by
 refine f_in Tryz.func31 rfl ?_;refine go ?_;refine bx (fun fg ac co=>?_);have fe:=ac.2;refine go ?_;refine l_op (k_fieldAddr (b:=w.heap.size) (o:=0) (off:=0) (oo:=0) U2059 rfl rfl sz4 rfl rfl ?_);refine go ?_;exact f_ret1 (t:=2) (v:=.bool (false)) rfl fe rfl rfl
set_option maxRecDepth 100000 in
theorem find_ok {kd la lb ha hb ga gb ra rb va vb sa sb ka kb ua ub xa xb ya yb : Int} {pl : Nat} {ins : Bool} {w : World} (hA : ∀ W, Tb W → Calls Tryz.prog 20 #[.agg #[.int .i64 (kd), S ((qR la lb).1), S ((qR la lb).2), S ((qR ha hb).1), S ((qR ha hb).2), S ((qR ga gb).1), S ((qR ga gb).2), S ((qR ra rb).1), S ((qR ra rb).2)]] W (Ret W fun v _ => v = .tuple #[.agg #[S ((qR xa xb).1), S ((qR xa xb).2), S ((qR ya yb).1), S ((qR ya yb).2)], .int .i64 0])) (hO : ∀ W, Tb W → Calls Tryz.prog 59 #[.agg #[S ((qR va vb).1), S ((qR va vb).2)], .agg #[S ((qR sa sb).1), S ((qR sa sb).2)], .agg #[S ((qR la lb).1), S ((qR la lb).2)], .agg #[S ((qR ha hb).1), S ((qR ha hb).2)], .int .i64 pl] W (Ret W fun v _ => v = .tuple #[.agg #[S ((qR ka kb).1), S ((qR ka kb).2), S ((qR ua ub).1), S ((qR ua ub).2)], .int .i64 0])) (hC : ∀ W, Tb W → Calls Tryz.prog 21 #[.agg #[S ((qR xa xb).1), S ((qR xa xb).2), S ((qR ya yb).1), S ((qR ya yb).2)], .agg #[S ((qR va vb).1), S ((qR va vb).2)]] W (Ret W fun v _ => v = .bool ins)) (ht : Tb w) :
    Calls Tryz.prog 29 #[.agg #[.int .i64 (kd),S ((qR la lb).1),S ((qR la lb).2),S ((qR ha hb).1),S ((qR ha hb).2),S ((qR ga gb).1),S ((qR ga gb).2),S ((qR ra rb).1),S ((qR ra rb).2)],.agg #[S ((qR va vb).1),S ((qR va vb).2)],.agg #[S ((qR sa sb).1),S ((qR sa sb).2)],.int .i64 pl] w (Ret w fun v w'=>v = .tuple #[.agg #[.bool (ins),S ((qR ka kb).1),S ((qR ka kb).2),S ((qR ua ub).1),S ((qR ua ub).2),S ((qR ra rb).1),S ((qR ra rb).2)],.bool true]):=by
 refine f_in Tryz.func29 rfl ?_;refine go ?_;refine bx (fun gp ii co=>?_);have ac:=ii.2;refine bx (fun ij gq fe=>?_);have ⟨co,ac⟩:=be1 gq.2 co ac;refine bx (fun gc gd fg=>?_);have ⟨co,fe,ac⟩:=be2 gd.2 co fe ac;refine al inf2059 (fun ke f7 fh=>?_);have ⟨co,fe,fg,ac⟩:=be3 f7.2 co fe fg ac;refine go ?_;refine l_op (k_loadA (cs:=[.int .i64 (kd),S ((qR la lb).1),S ((qR la lb).2),S ((qR ha hb).1),S ((qR ha hb).2),S ((qR ga gb).1),S ((qR ga gb).2),S ((qR ra rb).1),S ((qR ra rb).2)]) (b:=w.heap.size) (o:=0) U2027 rfl sz2027 rfl (Blk.cells co (i:=0) rfl) ?_);refine cl en2020 ((hA _ (ht.ext ac))) ?_;rintro kf gu fw rfl;have ⟨co,fe,fg,fh,ac⟩:=be4 fw.2 co fe fg fh ac;refine go ?_;refine al inf1032 (fun kg f6 ik=>?_);have ⟨co,fe,fg,fh,ac⟩:=be4 f6.2 co fe fg fh ac;refine SA ik (fun kh fo fj=>?_);have ⟨co,fe,fg,fh,ac,ki⟩:=pl4 fo co fe fg fh ac;refine go ?_;refine l_op (k_fieldAddr (b:=w.heap.size) (o:=0) (off:=1) (oo:=1) U2027 rfl rfl sz36 rfl rfl ?_);refine go ?_;refine l_op (k_fieldAddr (b:=w.heap.size) (o:=0) (off:=3) (oo:=3) U2027 rfl rfl sz36 rfl rfl ?_);refine go ?_;refine cl en2059 ((hO _ (ht.ext ac))) ?_;rintro kj gv fp rfl;have ⟨co,fe,fg,fh,fj,ac⟩:=be5 fp.2 co fe fg fh fj ac;refine go ?_;refine al inf1032 (fun km fq il=>?_);have ⟨co,fe,fg,fh,fj,ac⟩:=be5 fq.2 co fe fg fh fj ac;refine SA il (fun im fk gw=>?_);have ⟨co,fe,fg,fh,fj,ac,kn⟩:=pl5 fk co fe fg fh fj ac;refine go ?_
 refine c_dv hmix 10 [32,33,34,35,36,37,38,39,40] [some (32,.agg #[S ((qR xa xb).1),S ((qR xa xb).2),S ((qR ya yb).1),S ((qR ya yb).2)]),some (33,.agg #[S ((qR va vb).1),S ((qR va vb).2)]),some (34,.bool (ins)),some (35,.agg #[S ((qR ka kb).1),S ((qR ka kb).2),S ((qR ua ub).1),S ((qR ua ub).2)]),some (36,.pointer (some ⟨w.heap.size,7,none⟩)),some (37,.agg #[S ((qR ra rb).1),S ((qR ra rb).2)]),some (38,.agg #[.bool (ins),S ((qR ka kb).1),S ((qR ka kb).2),S ((qR ua ub).1),S ((qR ua ub).2),S ((qR ra rb).1),S ((qR ra rb).2)]),some (39,.int .i64 (0)),some (40,.bool (decide (0 = 0))),none] (XW im (gc.heap.size) 9 59 #[.bool false,S ([]),S ([]),S ([]),S ([]),S ([]),S ([])] #[.bool (ins),S ((qR ka kb).1),S ((qR ka kb).2),S ((qR ua ub).1),S ((qR ua ub).2),S ((qR ra rb).1),S ((qR ra rb).2)]) (XW.start fh) (by kernel_rfl) (by kernel_rfl) (by kernel_rfl) ?_ ?_;refine ⟨fun ko kp kq io kr gy ks kt ku=>?_,?_⟩;obtain ⟨ko,rfl⟩:=ovE io;have ip:=(Blk.gr gy.1 (by simp; omega) fj);refine l_op (k_loadA (cs:=[S ((qR xa xb).1),S ((qR xa xb).2),S ((qR ya yb).1),S ((qR ya yb).2)]) (b:=gu.heap.size) (o:=0) U1032 rfl sz1032 rfl (Blk.cells ip (i:=0) rfl) ?_);refine go ?_;exact dvW rfl gy (Ext.refl _);refine ⟨fun kv kw ky iq kz gz ld lg lh=>?_,?_⟩;obtain ⟨kv,rfl⟩:=ovE iq;have ir:=(Blk.gr gz.1 (by simp; omega) fe);refine go ?_;exact dvW rfl gz (Ext.refl _);refine ⟨fun g6 li lj lk g7 g8 ll ln lu=>?_,?_⟩
 obtain ⟨g6,rfl⟩:=ovE lk;have iu : g6 32 = .agg #[S ((qR xa xb).1),S ((qR xa xb).2),S ((qR ya yb).1),S ((qR ya yb).2)]:=g7 0 _ _ rfl rfl;have iv : g6 33 = .agg #[S ((qR va vb).1),S ((qR va vb).2)]:=g7 1 _ _ rfl rfl;have gh:=low_gr ac g8.1 (bz ac) (fun g hgg=>by cases hgg; omega);refine cl en1057 ((hC _ (ht.ext gh))) ?_ (cons_eq iu (cons_eq iv rfl));rintro lv lw g9 rfl;refine go ?_;exact dvW rfl g8 g9.2;refine ⟨fun lx lz l0 iw l9 ia mc me mf=>?_,?_⟩;obtain ⟨lx,rfl⟩:=ovE iw;have ix:=(Blk.gr ia.1 (by simp; omega) gw);refine l_op (k_loadA (cs:=[S ((qR ka kb).1),S ((qR ka kb).2),S ((qR ua ub).1),S ((qR ua ub).2)]) (b:=gv.heap.size) (o:=0) U1032 rfl sz1032 rfl (Blk.cells ix (i:=0) rfl) ?_);refine go ?_;exact dvW rfl ia (Ext.refl _);refine ⟨fun mg mh mi iy mj iz ml mm mo=>?_,?_⟩;obtain ⟨mg,rfl⟩:=ovE iy;refine l_op (k_fieldAddr (b:=w.heap.size) (o:=0) (off:=7) (oo:=7) U2027 rfl rfl sz36 rfl rfl ?_);refine go ?_;exact dvW rfl iz (Ext.refl _);refine ⟨fun ja mu mv mw jb ic mx my mz=>?_,?_⟩;obtain ⟨ja,rfl⟩:=ovE mw;have jc : ja 36 = .pointer (some ⟨w.heap.size,7,none⟩):=jb 4 _ _ rfl rfl;have jd:=(Blk.gr ic.1 (by simp; omega) co);refine go ?_;exact dvW rfl ic (Ext.refl _);refine ⟨fun gi m5 m6 m7 gj je m8 m9 nc=>?_,?_⟩;obtain ⟨gi,rfl⟩:=ovE m7;have jf : gi 34 = .bool (ins):=gj 2 _ _ rfl rfl;have jg : gi 35 = .agg #[S ((qR ka kb).1),S ((qR ka kb).2),S ((qR ua ub).1),S ((qR ua ub).2)]:=gj 3 _ _ rfl rfl
 have jh : gi 37 = .agg #[S ((qR ra rb).1),S ((qR ra rb).2)]:=gj 5 _ _ rfl rfl;refine l_op (k_build (vs:=[(0,.bool (ins)),(1,.agg #[S ((qR ka kb).1),S ((qR ka kb).2),S ((qR ua ub).1),S ((qR ua ub).2)]),(2,.agg #[S ((qR ra rb).1),S ((qR ra rb).2)])]) (cells:=#[.bool (ins),S ((qR ka kb).1),S ((qR ka kb).2),S ((qR ua ub).1),S ((qR ua ub).2),S ((qR ra rb).1),S ((qR ra rb).2)]) (pl:=[(0,1),(1,4),(5,2)]) U2059 inf2059 (by kernel_rfl) (cons_eqp jf (cons_eqp jg (cons_eqp jh rfl))) (by kernel_rfl) ?_);refine go ?_;exact dvW rfl je (Ext.refl _);refine ⟨fun nd nf nh ji ni jj nj nk nl=>?_,?_⟩;obtain ⟨nd,rfl⟩:=ovE ji;refine go ?_;exact dvW rfl jj (Ext.refl _);refine ⟨fun jk nn nu nw jl jm nz n4 n6=>?_,?_⟩;obtain ⟨jk,rfl⟩:=ovE nw;have jn : jk 39 = .int .i64 (0):=jl 7 _ _ rfl rfl;refine go ?_;exact dvW rfl jm (Ext.refl _);refine ⟨fun jo n7 n8 jp jq gk n9 jr oa=>?_,?_⟩;obtain ⟨jo,rfl⟩:=ovE jp;have js : jo 38 = .agg #[.bool (ins),S ((qR ka kb).1),S ((qR ka kb).2),S ((qR ua ub).1),S ((qR ua ub).2),S ((qR ra rb).1),S ((qR ra rb).2)]:=jq 6 _ _ rfl rfl;have gl:=low_gr ac gk.1 (bz ac) (fun g hgg=>by cases hgg; omega);have oc:=bz gl;have jt:=XW.opn gk jr
 refine l_op (k_storeA (b:=gc.heap.size) (o:=0) (vs:=[.bool (ins),S ((qR ka kb).1),S ((qR ka kb).2),S ((qR ua ub).1),S ((qR ua ub).2),S ((qR ra rb).1),S ((qR ra rb).2)]) sz2059 rfl js (by simp [Value.oneCell',S]) jt (by first | decide | exact Nat.le_of_ble_eq_true rfl | simp) (fun oe gm ju=>?_));have og:=psz gm;refine go ?_;exact dvWs (.inr rfl) gk gm ju;exact trivial;intro jv oh oi jw jx jy fm;obtain ⟨jv,rfl⟩:=ovE jx;have jz:=(Blk.gr fm.1 (by simp; omega) co);have ol:=bt jz;have j5:=(Blk.gr fm.1 (by simp; omega) fe);have ot:=bt j5;have j6:=(Blk.gr fm.1 (by simp; omega) fg);have ou:=bt j6;have j7:=(Blk.gr fm.1 (by simp; omega) fj);have ow:=bt j7;have j8:=(Blk.gr fm.1 (by simp; omega) gw);have ox:=bt j8;have ie:=low_gr ac fm.1 (bz ac) (fun g hgg=>by cases hgg; omega);have oy:=bz ie;have ig:=XW.fin fm (jw 9 rfl);have oz:=bt ig;have j9 : jv 40 = .bool (decide (0 = 0)):=(jy 8 _ _ rfl rfl);refine go ?_;refine f_out (v:=.tuple #[.agg #[.bool (ins),S ((qR ka kb).1),S ((qR ka kb).2),S ((qR ua ub).1),S ((qR ua ub).2),S ((qR ra rb).1),S ((qR ra rb).2)],.bool (decide (0 = 0))]) (res2 (r1:=.cell 8 59) (r2:=.tmp 9) rfl ?_ ?_) ie rfl;refine res_cellA (t:=8) (cs:=[.bool (ins),S ((qR ka kb).1),S ((qR ka kb).2),S ((qR ua ub).1),S ((qR ua ub).2),S ((qR ra rb).1),S ((qR ra rb).2)]) (b:=gc.heap.size) (o:=0) U2059 rfl sz2059 ?_ ?_;exact rfl;exact Blk.cells ig (i:=0) rfl;exact res_tmp (t:=9) (by exact rfl) _
def vdct (rj ac : Bool) : Int:=if rj then 2 else if ac then 1 else 3
theorem vdct2 {rj ac : Bool} (h : rj = true) : vdct rj ac = 2:=by subst h; rfl
theorem vdct1 {rj ac : Bool} (h : rj = false) (h2 : ac = true) : vdct rj ac = 1:=by subst h h2; rfl
theorem vdct3 {rj ac : Bool} (h : rj = false) (h2 : ac = false) : vdct rj ac = 3:=by subst h h2; rfl
set_option maxRecDepth 100000 in
theorem decide_ok {kd la lb ha hb ga gb ra rb va vb sa sb ka kb ua ub : Int} {pl : Nat} {ins rj ac : Bool} {w : World} (hF : ∀ W, Tb W → Calls Tryz.prog 29 #[.agg #[.int .i64 (kd), S ((qR la lb).1), S ((qR la lb).2), S ((qR ha hb).1), S ((qR ha hb).2), S ((qR ga gb).1), S ((qR ga gb).2), S ((qR ra rb).1), S ((qR ra rb).2)], .agg #[S ((qR va vb).1), S ((qR va vb).2)], .agg #[S ((qR sa sb).1), S ((qR sa sb).2)], .int .i64 pl] W (Ret W fun v _ => v = .tuple #[.agg #[.bool (ins), S ((qR ka kb).1), S ((qR ka kb).2), S ((qR ua ub).1), S ((qR ua ub).2), S ((qR ra rb).1), S ((qR ra rb).2)], .bool true])) (hR : ∀ W, Tb W → Calls Tryz.prog 30 #[.agg #[.bool (ins), S ((qR ka kb).1), S ((qR ka kb).2), S ((qR ua ub).1), S ((qR ua ub).2), S ((qR ra rb).1), S ((qR ra rb).2)]] W (Ret W fun v _ => v = .bool rj)) (hA : ∀ W, Tb W → Calls Tryz.prog 31 #[.agg #[.bool (ins), S ((qR ka kb).1), S ((qR ka kb).2), S ((qR ua ub).1), S ((qR ua ub).2), S ((qR ra rb).1), S ((qR ra rb).2)]] W (Ret W fun v _ => v = .bool ac)) (ht : Tb w) :
    Calls Tryz.prog 18 #[.agg #[.int .i64 (kd),S ((qR la lb).1),S ((qR la lb).2),S ((qR ha hb).1),S ((qR ha hb).2),S ((qR ga gb).1),S ((qR ga gb).2),S ((qR ra rb).1),S ((qR ra rb).2)],.agg #[S ((qR va vb).1),S ((qR va vb).2)],.agg #[S ((qR sa sb).1),S ((qR sa sb).2)],.int .i64 pl] w (Ret w fun v w'=>v = .tuple #[.int .i64 (vdct rj ac),.agg #[S ((qR ka kb).1),S ((qR ka kb).2),S ((qR ua ub).1),S ((qR ua ub).2)],.int .i64 0]):=by
 refine f_in Tryz.func18 rfl ?_;refine go ?_;refine bx (fun iy jt fe=>?_);have co:=jt.2;refine bx (fun iz jf fg=>?_);have ⟨fe,co⟩:=be1 jf.2 fe co;refine bx (fun fm jc fj=>?_);have ⟨fe,fg,co⟩:=be2 jc.2 fe fg co;refine go ?_;refine al inf1032 (fun oy ja fk=>?_);have ⟨fe,fg,fj,co⟩:=be3 ja.2 fe fg fj co;refine go ?_;refine l_op (k_loadA (cs:=[.int .i64 (kd),S ((qR la lb).1),S ((qR la lb).2),S ((qR ha hb).1),S ((qR ha hb).2),S ((qR ga gb).1),S ((qR ga gb).2),S ((qR ra rb).1),S ((qR ra rb).2)]) (b:=w.heap.size) (o:=0) U2027 rfl sz2027 rfl (Blk.cells fe (i:=0) rfl) ?_);refine go ?_;refine cl en2029 ((hF _ (ht.ext co))) ?_;rintro oz fh iw rfl;have ⟨fe,fg,fj,fk,co⟩:=be4 iw.2 fe fg fj fk co;refine go ?_;refine al inf2059 (fun o0 ix ju=>?_);have ⟨fe,fg,fj,fk,co⟩:=be4 ix.2 fe fg fj fk co;refine l_op (k_storeA (b:=fh.heap.size) (o:=0) (vs:=[.bool (ins),S ((qR ka kb).1),S ((qR ka kb).2),S ((qR ua ub).1),S ((qR ua ub).2),S ((qR ra rb).1),S ((qR ra rb).2)]) sz2059 rfl rfl (by simp [Value.oneCell',S]) ju (by first | decide | exact Nat.le_of_ble_eq_true rfl | simp) (fun o5 io gq=>?_));have ⟨fe,fg,fj,fk,co,o6⟩:=pl4 io fe fg fj fk co;refine go ?_;refine l_op (k_loadA (cs:=[.bool (ins),S ((qR ka kb).1),S ((qR ka kb).2),S ((qR ua ub).1),S ((qR ua ub).2),S ((qR ra rb).1),S ((qR ra rb).2)]) (b:=fh.heap.size) (o:=0) U2059 rfl sz2059 rfl (Blk.cells gq (i:=0) rfl) ?_);refine cl en2030 ((hR _ (ht.ext co))) ?_;rintro o7 jg ip rfl
 have ⟨fe,fg,fj,fk,gq,co⟩:=be5 ip.2 fe fg fj fk gq co;refine go ?_;rcases Bool.eq_false_or_eq_true (rj) with jd | jd;refine go ?_;have ik:=Ext.drew jg;refine c_st2 hmix 4 (fun e0 ls e W=>(∀ t,inB [8,30,31,32] t = false→e t = e0 t)∧(Ext w W)∧(jg.heap.size≤W.heap.size)∧(ls 0 = true→e 30 = .int .i64 (2))∧(ls 1 = true→e 31 = .pointer (some ⟨fh.heap.size,1,none⟩))∧(ls 2 = true→e 32 = .agg #[S ((qR ka kb).1),S ((qR ka kb).2),S ((qR ua ub).1),S ((qR ua ub).2)])∧(ls 3 = true→e 8 = .int .i64 (2))∧(ls 3 = false→e 8 = .int .i64 (2))∧(Blk W (w.heap.size) 27 #[.int .i64 (kd),S ((qR la lb).1),S ((qR la lb).2),S ((qR ha hb).1),S ((qR ha hb).2),S ((qR ga gb).1),S ((qR ga gb).2),S ((qR ra rb).1),S ((qR ra rb).2)])∧(Blk W (iy.heap.size) 25 #[S ((qR va vb).1),S ((qR va vb).2)])∧(Blk W (iz.heap.size) 25 #[S ((qR sa sb).1),S ((qR sa sb).2)])∧(Blk W (fm.heap.size) 44 #[S ([]),S ([]),S ([]),S ([])])∧(Blk W (fh.heap.size) 59 #[.bool (ins),S ((qR ka kb).1),S ((qR ka kb).2),S ((qR ua ub).1),S ((qR ua ub).2),S ((qR ra rb).1),S ((qR ra rb).2)])) ⟨(fun _ _=>rfl),(xt co ik),(bz ik),(ff rfl),(ff rfl),(ff rfl),(ff rfl),(fun _=>rfl),(be ik fe),(be ik fg),(be ik fj),(be ik fk),(be ik gq)⟩ (by kernel_rfl) (by kernel_rfl) ?_ ?_
 refine ⟨fun jv o8 jw jx jy jz o9=>?_,?_⟩;obtain ⟨j5,co,zst,gu,gv,gw,gy,gz,fw,f6,f7,gl,fo⟩:=jx;obtain ⟨jv,rfl⟩:=ovE j5;have j6 : jw 3 = false:=(unl jy (i:=0) (j:=3) rfl jz);have j7 : jv 8 = .int .i64 (2):=gz j6;have pc:=bz co;refine go ?_;exact ⟨rfl,_,(act_put _ _ _ _ _).symm,(same_upd rfl j5),co,om,(fun _=>rfl),gv,gw,gy,gz,(fw),(f6),(f7),(gl),(fo)⟩;refine ⟨fun pf pg j8 j9 ke kf pj=>?_,?_⟩;obtain ⟨jh,co,zst,gu,gv,gw,gy,gz,fw,f6,f7,gl,fo⟩:=j9;obtain ⟨pf,rfl⟩:=ovE jh;have pm : j8 2 = false:=(unl ke (i:=1) (j:=2) rfl kf);have pn:=bz co;refine l_op (k_fieldAddr (b:=fh.heap.size) (o:=0) (off:=1) (oo:=1) U2059 rfl rfl sz1032 rfl rfl ?_);refine go ?_;exact ⟨rfl,_,(act_put _ _ _ _ _).symm,(same_upd rfl jh),co,om,gu,(fun _=>rfl),gw,gy,gz,(fw),(f6),(f7),(gl),(fo)⟩;refine ⟨fun kg po kh ki pp pq kj=>?_,?_⟩;obtain ⟨km,co,zst,gu,gv,gw,gy,gz,fw,f6,f7,gl,fo⟩:=ki;obtain ⟨kg,rfl⟩:=ovE km;have kn : kh 1 = true:=(kj 1 rfl);have ko : kg 31 = .pointer (some ⟨fh.heap.size,1,none⟩):=gv kn;have pr:=bz co;refine l_op (k_loadA (cs:=[S ((qR ka kb).1),S ((qR ka kb).2),S ((qR ua ub).1),S ((qR ua ub).2)]) (b:=fh.heap.size) (o:=1) U1032 rfl sz1032 ko (Blk.cells fo (i:=1) rfl) ?_);refine go ?_;exact ⟨rfl,_,(act_put _ _ _ _ _).symm,(same_upd rfl km),co,om,gu,gv,(fun _=>rfl),gy,gz,(fw),(f6),(f7),(gl),(fo)⟩;refine ⟨fun kp pt kq kr pu pw ks=>?_,?_⟩
 obtain ⟨kt,co,zst,gu,gv,gw,gy,gz,fw,f6,f7,gl,fo⟩:=kr;obtain ⟨kp,rfl⟩:=ovE kt;have ku : kq 0 = true:=(ks 0 rfl);have kv : kp 30 = .int .i64 (2):=gu ku;have px:=bz co;refine go ?_;exact ⟨rfl,_,(act_put _ _ _ _ _).symm,(same_upd rfl kt),co,om,gu,gv,gw,(fun _=>rfl),(fun kw=>tf rfl kw),(fw),(f6),(f7),(gl),(fo)⟩;exact trivial;intro ji py p0 jj ky;obtain ⟨kz,co,zst,gu,gv,gw,gy,gz,fw,f6,f7,gl,fo⟩:=ky;obtain ⟨ji,rfl⟩:=ovE kz;have p7:=bz co;have p9:=bt fw;have qa:=bt f6;have qb:=bt f7;have qc:=bt gl;have qd:=bt fo;have ld : ji 32 = .agg #[S ((qR ka kb).1),S ((qR ka kb).2),S ((qR ua ub).1),S ((qR ua ub).2)]:=(gw (jj 2 rfl));refine SA gl (fun qe iq lg=>?_);have ⟨fw,f6,f7,fo,co,qg⟩:=pl4 iq fw f6 f7 fo co;refine go ?_;refine f_out (v:=.tuple #[.int .i64 (2),.agg #[S ((qR ka kb).1),S ((qR ka kb).2),S ((qR ua ub).1),S ((qR ua ub).2)],.int .i64 (0)]) (res3 (r1:=.tmp 8) (r2:=.cell 9 44) (r3:=.tmp 10) rfl ?_ ?_ ?_) co (by first | rw [vdct2 (by assumption)] | rw [vdct1 (by simp_all) (by assumption)] | rw [vdct3 (by simp_all) (by simp_all)]);exact res_tmp (t:=8) (by exact (gy (jj 3 rfl))) _;refine res_cellA (t:=9) (cs:=[S ((qR ka kb).1),S ((qR ka kb).2),S ((qR ua ub).1),S ((qR ua ub).2)]) (b:=fm.heap.size) (o:=0) U1032 rfl sz1032 ?_ ?_;exact rfl;exact Blk.cells lg (i:=0) rfl;exact res_tmp (t:=10) (by exact rfl) _;refine go ?_
 refine l_op (k_loadA (cs:=[.bool (ins),S ((qR ka kb).1),S ((qR ka kb).2),S ((qR ua ub).1),S ((qR ua ub).2),S ((qR ra rb).1),S ((qR ra rb).2)]) (b:=fh.heap.size) (o:=0) U2059 rfl sz2059 rfl (Blk.cells gq (i:=0) rfl) ?_);refine cl en2031 ((hA _ (ht.ext co))) ?_;rintro qh jb ir rfl;have ⟨fe,fg,fj,fk,gq,co⟩:=be5 ir.2 fe fg fj fk gq co;refine go ?_;rcases Bool.eq_false_or_eq_true (ac) with je | je;refine go ?_;have il:=Ext.drew jb;refine c_st2 hmix 4 (fun e0 ls e W=>(∀ t,inB [8,30,31,32] t = false→e t = e0 t)∧(Ext w W)∧(jb.heap.size≤W.heap.size)∧(ls 0 = true→e 30 = .int .i64 (1))∧(ls 1 = true→e 31 = .pointer (some ⟨fh.heap.size,1,none⟩))∧(ls 2 = true→e 32 = .agg #[S ((qR ka kb).1),S ((qR ka kb).2),S ((qR ua ub).1),S ((qR ua ub).2)])∧(ls 3 = true→e 8 = .int .i64 (1))∧(ls 3 = false→e 8 = .int .i64 (1))∧(Blk W (w.heap.size) 27 #[.int .i64 (kd),S ((qR la lb).1),S ((qR la lb).2),S ((qR ha hb).1),S ((qR ha hb).2),S ((qR ga gb).1),S ((qR ga gb).2),S ((qR ra rb).1),S ((qR ra rb).2)])∧(Blk W (iy.heap.size) 25 #[S ((qR va vb).1),S ((qR va vb).2)])∧(Blk W (iz.heap.size) 25 #[S ((qR sa sb).1),S ((qR sa sb).2)])∧(Blk W (fm.heap.size) 44 #[S ([]),S ([]),S ([]),S ([])])∧(Blk W (fh.heap.size) 59 #[.bool (ins),S ((qR ka kb).1),S ((qR ka kb).2),S ((qR ua ub).1),S ((qR ua ub).2),S ((qR ra rb).1),S ((qR ra rb).2)])) ⟨(fun _ _=>rfl),(xt co il),(bz il),(ff rfl),(ff rfl),(ff rfl),(ff rfl),(fun _=>rfl),(be il fe),(be il fg),(be il fj),(be il fk),(be il gq)⟩ (by kernel_rfl) (by kernel_rfl) ?_ ?_
 refine ⟨fun lh qj li lj lk ll qk=>?_,?_⟩;obtain ⟨ln,co,zst,g6,g7,g8,g9,ia,gc,gd,gh,gm,fp⟩:=lj;obtain ⟨lh,rfl⟩:=ovE ln;have lu : li 3 = false:=(unl lk (i:=0) (j:=3) rfl ll);have lv : lh 8 = .int .i64 (1):=ia lu;have ql:=bz co;refine go ?_;exact ⟨rfl,_,(act_put _ _ _ _ _).symm,(same_upd rfl ln),co,om,(fun _=>rfl),g7,g8,g9,ia,(gc),(gd),(gh),(gm),(fp)⟩;refine ⟨fun qm qn lw lx lz l0 qo=>?_,?_⟩;obtain ⟨jl,co,zst,g6,g7,g8,g9,ia,gc,gd,gh,gm,fp⟩:=lx;obtain ⟨qm,rfl⟩:=ovE jl;have qq : lw 2 = false:=(unl lz (i:=1) (j:=2) rfl l0);have qr:=bz co;refine l_op (k_fieldAddr (b:=fh.heap.size) (o:=0) (off:=1) (oo:=1) U2059 rfl rfl sz1032 rfl rfl ?_);refine go ?_;exact ⟨rfl,_,(act_put _ _ _ _ _).symm,(same_upd rfl jl),co,om,g6,(fun _=>rfl),g8,g9,ia,(gc),(gd),(gh),(gm),(fp)⟩;refine ⟨fun l9 qy mc me q5 q6 mf=>?_,?_⟩;obtain ⟨mg,co,zst,g6,g7,g8,g9,ia,gc,gd,gh,gm,fp⟩:=me;obtain ⟨l9,rfl⟩:=ovE mg;have mh : mc 1 = true:=(mf 1 rfl);have mi : l9 31 = .pointer (some ⟨fh.heap.size,1,none⟩):=g7 mh;have q7:=bz co;refine l_op (k_loadA (cs:=[S ((qR ka kb).1),S ((qR ka kb).2),S ((qR ua ub).1),S ((qR ua ub).2)]) (b:=fh.heap.size) (o:=1) U1032 rfl sz1032 mi (Blk.cells fp (i:=1) rfl) ?_);refine go ?_;exact ⟨rfl,_,(act_put _ _ _ _ _).symm,(same_upd rfl mg),co,om,g6,g7,(fun _=>rfl),g9,ia,(gc),(gd),(gh),(gm),(fp)⟩;refine ⟨fun mj q8 ml mm q9 rd mo=>?_,?_⟩
 obtain ⟨mu,co,zst,g6,g7,g8,g9,ia,gc,gd,gh,gm,fp⟩:=mm;obtain ⟨mj,rfl⟩:=ovE mu;have mv : ml 0 = true:=(mo 0 rfl);have mw : mj 30 = .int .i64 (1):=g6 mv;have re:=bz co;refine go ?_;exact ⟨rfl,_,(act_put _ _ _ _ _).symm,(same_upd rfl mu),co,om,g6,g7,g8,(fun _=>rfl),(fun mx=>tf rfl mx),(gc),(gd),(gh),(gm),(fp)⟩;exact trivial;intro jm rh ri jn my;obtain ⟨mz,co,zst,g6,g7,g8,g9,ia,gc,gd,gh,gm,fp⟩:=my;obtain ⟨jm,rfl⟩:=ovE mz;have rk:=bz co;have rm:=bt gc;have rp:=bt gd;have rq:=bt gh;have rr:=bt gm;have rt:=bt fp;have m5 : jm 32 = .agg #[S ((qR ka kb).1),S ((qR ka kb).2),S ((qR ua ub).1),S ((qR ua ub).2)]:=(g8 (jn 2 rfl));refine SA gm (fun ru iu m6=>?_);have ⟨gc,gd,gh,fp,co,ry⟩:=pl4 iu gc gd gh fp co;refine go ?_;refine f_out (v:=.tuple #[.int .i64 (1),.agg #[S ((qR ka kb).1),S ((qR ka kb).2),S ((qR ua ub).1),S ((qR ua ub).2)],.int .i64 (0)]) (res3 (r1:=.tmp 8) (r2:=.cell 9 44) (r3:=.tmp 10) rfl ?_ ?_ ?_) co (by first | rw [vdct2 (by assumption)] | rw [vdct1 (by simp_all) (by assumption)] | rw [vdct3 (by simp_all) (by simp_all)]);exact res_tmp (t:=8) (by exact (g9 (jn 3 rfl))) _;refine res_cellA (t:=9) (cs:=[S ((qR ka kb).1),S ((qR ka kb).2),S ((qR ua ub).1),S ((qR ua ub).2)]) (b:=fm.heap.size) (o:=0) U1032 rfl sz1032 ?_ ?_;exact rfl;exact Blk.cells m6 (i:=0) rfl;exact res_tmp (t:=10) (by exact rfl) _;refine go ?_;have im:=Ext.drew jb
 refine c_st2 hmix 4 (fun e0 ls e W=>(∀ t,inB [8,30,31,32] t = false→e t = e0 t)∧(Ext w W)∧(jb.heap.size≤W.heap.size)∧(ls 0 = true→e 30 = .int .i64 (3))∧(ls 1 = true→e 31 = .pointer (some ⟨fh.heap.size,1,none⟩))∧(ls 2 = true→e 32 = .agg #[S ((qR ka kb).1),S ((qR ka kb).2),S ((qR ua ub).1),S ((qR ua ub).2)])∧(ls 3 = true→e 8 = .int .i64 (3))∧(ls 3 = false→e 8 = .int .i64 (3))∧(Blk W (w.heap.size) 27 #[.int .i64 (kd),S ((qR la lb).1),S ((qR la lb).2),S ((qR ha hb).1),S ((qR ha hb).2),S ((qR ga gb).1),S ((qR ga gb).2),S ((qR ra rb).1),S ((qR ra rb).2)])∧(Blk W (iy.heap.size) 25 #[S ((qR va vb).1),S ((qR va vb).2)])∧(Blk W (iz.heap.size) 25 #[S ((qR sa sb).1),S ((qR sa sb).2)])∧(Blk W (fm.heap.size) 44 #[S ([]),S ([]),S ([]),S ([])])∧(Blk W (fh.heap.size) 59 #[.bool (ins),S ((qR ka kb).1),S ((qR ka kb).2),S ((qR ua ub).1),S ((qR ua ub).2),S ((qR ra rb).1),S ((qR ra rb).2)])) ⟨(fun _ _=>rfl),(xt co im),(bz im),(ff rfl),(ff rfl),(ff rfl),(ff rfl),(fun _=>rfl),(be im fe),(be im fg),(be im fj),(be im fk),(be im gq)⟩ (by kernel_rfl) (by kernel_rfl) ?_ ?_;refine ⟨fun m7 rz m8 m9 nc nd r6=>?_,?_⟩;obtain ⟨nf,co,zst,ic,ie,ig,ii,ij,gi,gj,gk,gp,fq⟩:=m9;obtain ⟨m7,rfl⟩:=ovE nf;have nh : m8 3 = false:=(unl nc (i:=0) (j:=3) rfl nd);have ni : m7 8 = .int .i64 (3):=ij nh;have r7:=bz co;refine go ?_
 exact ⟨rfl,_,(act_put _ _ _ _ _).symm,(same_upd rfl nf),co,om,(fun _=>rfl),ie,ig,ii,ij,(gi),(gj),(gk),(gp),(fq)⟩;refine ⟨fun r8 r9 nj nk nl nn sc=>?_,?_⟩;obtain ⟨jp,co,zst,ic,ie,ig,ii,ij,gi,gj,gk,gp,fq⟩:=nk;obtain ⟨r8,rfl⟩:=ovE jp;have sd : nj 2 = false:=(unl nl (i:=1) (j:=2) rfl nn);have se:=bz co;refine l_op (k_fieldAddr (b:=fh.heap.size) (o:=0) (off:=1) (oo:=1) U2059 rfl rfl sz1032 rfl rfl ?_);refine go ?_;exact ⟨rfl,_,(act_put _ _ _ _ _).symm,(same_upd rfl jp),co,om,ic,(fun _=>rfl),ig,ii,ij,(gi),(gj),(gk),(gp),(fq)⟩;refine ⟨fun nu sh nw nz si sj n4=>?_,?_⟩;obtain ⟨n6,co,zst,ic,ie,ig,ii,ij,gi,gj,gk,gp,fq⟩:=nz;obtain ⟨nu,rfl⟩:=ovE n6;have n7 : nw 1 = true:=(n4 1 rfl);have n8 : nu 31 = .pointer (some ⟨fh.heap.size,1,none⟩):=ie n7;have sl:=bz co;refine l_op (k_loadA (cs:=[S ((qR ka kb).1),S ((qR ka kb).2),S ((qR ua ub).1),S ((qR ua ub).2)]) (b:=fh.heap.size) (o:=1) U1032 rfl sz1032 n8 (Blk.cells fq (i:=1) rfl) ?_);refine go ?_;exact ⟨rfl,_,(act_put _ _ _ _ _).symm,(same_upd rfl n6),co,om,ic,ie,(fun _=>rfl),ii,ij,(gi),(gj),(gk),(gp),(fq)⟩;refine ⟨fun n9 sn oa oc sq sr oe=>?_,?_⟩;obtain ⟨og,co,zst,ic,ie,ig,ii,ij,gi,gj,gk,gp,fq⟩:=oc;obtain ⟨n9,rfl⟩:=ovE og;have oh : oa 0 = true:=(oe 0 rfl);have oi : n9 30 = .int .i64 (3):=ic oh;have ss:=bz co;refine go ?_
 exact ⟨rfl,_,(act_put _ _ _ _ _).symm,(same_upd rfl og),co,om,ic,ie,ig,(fun _=>rfl),(fun ol=>tf rfl ol),(gi),(gj),(gk),(gp),(fq)⟩;exact trivial;intro jq su sv jr ot;obtain ⟨ou,co,zst,ic,ie,ig,ii,ij,gi,gj,gk,gp,fq⟩:=ot;obtain ⟨jq,rfl⟩:=ovE ou;have sy:=bz co;have ta:=bt gi;have tc:=bt gj;have td:=bt gk;have te:=bt gp;have tg:=bt fq;have ow : jq 32 = .agg #[S ((qR ka kb).1),S ((qR ka kb).2),S ((qR ua ub).1),S ((qR ua ub).2)]:=(ig (jr 2 rfl));refine SA gp (fun th iv ox=>?_);have ⟨gi,gj,gk,fq,co,tj⟩:=pl4 iv gi gj gk fq co;refine go ?_;refine f_out (v:=.tuple #[.int .i64 (3),.agg #[S ((qR ka kb).1),S ((qR ka kb).2),S ((qR ua ub).1),S ((qR ua ub).2)],.int .i64 (0)]) (res3 (r1:=.tmp 8) (r2:=.cell 9 44) (r3:=.tmp 10) rfl ?_ ?_ ?_) co (by first | rw [vdct2 (by assumption)] | rw [vdct1 (by simp_all) (by assumption)] | rw [vdct3 (by simp_all) (by simp_all)]);exact res_tmp (t:=8) (by exact (ii (jr 3 rfl))) _;refine res_cellA (t:=9) (cs:=[S ((qR ka kb).1),S ((qR ka kb).2),S ((qR ua ub).1),S ((qR ua ub).2)]) (b:=fm.heap.size) (o:=0) U1032 rfl sz1032 ?_ ?_;exact rfl;exact Blk.cells ox (i:=0) rfl;exact res_tmp (t:=10) (by exact rfl) _
end Go.Proofs.YtonigegpknhdnaaGreatDoor
