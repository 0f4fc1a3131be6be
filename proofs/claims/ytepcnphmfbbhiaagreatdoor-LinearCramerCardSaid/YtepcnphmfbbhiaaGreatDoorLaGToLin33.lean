/- Part of the proof that all functions of the layer agree with the reference implementation. -/
import Derived.Test.YtepcnphmfbbhiaaGreatDoorLaEToLaF
import Derived.Test.YtepcnphmfbbhiaaGreatDoorLinYToLinR
import Derived.Test.YtepcnphmfbbhiaaGreatDoorLin20
import Derived.Test.YtepcnphmfbbhiaaGreatDoorLin17ToLin18
import Derived.Test.YtepcnphmfbbhiaaGreatDoorLa1ToLa6
import Derived.Test.YtepcnphmfbbhiaaGreatDoorLin22
set_option linter.all false
set_option linter.all false
namespace Go.Proofs.YtepcnphmfbbhiaaGreatDoor
open Go Go.Eng Go.RowKit La
def gA (a0 : Nat) : Nat → Nat
  | 0 => a0
  | r + 1 => 2 * (gA a0 r * gA a0 r)
def gB (a0 b0 : Nat) : Nat → Nat
  | 0 => b0
  | r + 1 => 2 * (gA a0 r * gB a0 b0 r)
def gS (a0 s0 : Nat) : Nat → Nat
  | 0 => s0
  | r + 1 => gS a0 s0 r * gA a0 r
def grB (R M V a0 b0 s0 : Nat) : Bool := (List.range R).all fun r =>
  Nat.blt (2 * (gA a0 r * gS a0 s0 r)) T200 && Nat.blt (gS a0 s0 r * gS a0 s0 r) T200 &&
  (Nat.ble M (r + 1) || (Nat.blt (2 * (gA a0 r * ((gA a0 r + gB a0 b0 r) * (gS a0 s0 r * V)))) T200 && Nat.blt (gS a0 s0 r * V * (gS a0 s0 r * V * gA a0 r)) T200))
theorem Gr.of {R M V a0 b0 s0 n m cols : Nat} (h : grB R M V a0 b0 s0 = true) (hV : 1 ≤ V) (ha : 1 ≤ a0) (hs : 1 ≤ s0) (hR : n ≤ R ∨ cols ≤ R) (hM : m ≤ M) : Gr n m cols V (gA a0) (gB a0 b0) (gS a0 s0) := by
  have key : ∀ r, r < n → r < cols → r < R := fun r h1 h2 => by omega
  have h1 : ∀ r, r < R → _ := fun r hr => List.all_eq_true.1 h r (List.mem_range.2 hr)
  simp only [Bool.and_eq_true, Bool.or_eq_true, Nat.blt_eq, Nat.ble_eq] at h1
  exact ⟨hV, ha, hs, fun _ _ _ => Nat.le_refl _, fun _ _ _ => Nat.le_refl _, fun _ _ _ => Nat.le_refl _, fun r h2 h3 => (h1 r (key r h2 h3)).1, fun r h2 h3 h4 => by
    rcases (h1 r (key r h2 h3)).2 with h5 | h5
    · omega
    · exact h5⟩
def Rep (n m : Nat) (L : Rows) (N D : Nat) : Prop := ∃ (U : Nat → Nat → Int) (t : Nat → Int), ∀ i, i < n → t i ≠ 0 ∧ (t i).natAbs ≤ D ∧ ∀ j, j < m → Q L i j = (U i j : Rat) / (t i : Rat) ∧ (U i j).natAbs ≤ N
def RepC (n m : Nat) (L : Rows) (N : Nat) (t : Int) : Prop := ∃ U : Nat → Nat → Int, ∀ i, i < n → ∀ j, j < m → Q L i j = (U i j : Rat) / (t : Rat) ∧ (U i j).natAbs ≤ N
theorem RepC.mk {n m N : Nat} {L : Rows} {t : Int} (h : ∀ i, i < n → ∀ j, j < m → ∃ V : Int, Q L i j = (V : Rat) / (t : Rat) ∧ V.natAbs ≤ N) : RepC n m L N t := by
  refine ⟨fun i j => if h2 : i < n ∧ j < m then (h i h2.1 j h2.2).choose else 0, fun i hi j hj => ?_⟩
  have hs := (h i hi j hj).choose_spec
  simp only [hi, hj, and_self, dite_true]
  exact hs
theorem RepC.rep {n m N : Nat} {L : Rows} {t : Int} (h : RepC n m L N t) (ht : t ≠ 0) : Rep n m L N t.natAbs := by
  obtain ⟨U, h⟩ := h
  exact ⟨U, fun _ => t, fun i hi => ⟨ht, Nat.le_refl _, fun j hj => h i hi j hj⟩⟩
theorem vM_mk {n m : Nat} {L : Rows} (hn : 1 ≤ n) (hn8 : n ≤ 8) (hm : 1 ≤ m) (hm8 : m ≤ 8) (ok : OkL n m L) : vM n L = true ∧ (L 0).length = m := by
  have h0 := (ok 0 hn).1
  refine ⟨decide_eq_true ⟨hn, hn8, by omega, by omega, fun i hi => ⟨by rw [h0]; exact (ok i hi).1, all_rAt.2 fun k hk => (ok i hi).2 k (by rw [(ok i hi).1] at hk; exact hk)⟩⟩, h0⟩
theorem rank_val {n m N D : Nat} {L : Rows} (hn : 1 ≤ n) (hn8 : n ≤ 8) (hm : 1 ≤ m) (hm8 : m ≤ 8) (ok : OkL n m L) (hr : Rep n m L N D) (hg : Gr n m m 1 (gA N) (gB N N) (gS N D)) : ∃ r, rankS n L = some r ∧ Rk n m r (Q L) := by
  obtain ⟨hv, h0⟩ := vM_mk hn hn8 hm hm8 ok
  obtain ⟨U, t, hU⟩ := hr
  obtain ⟨s, e, h⟩ := elim_val (w := fun _ => 1) ok hg (fun j _ => ⟨show (1 : Int) ≠ 0 by decide, show Int.natAbs 1 ≤ 1 by decide, fun _ => rfl⟩) (Nat.le_refl m) U t (fun i hi => ⟨(hU i hi).1, (hU i hi).2.1, fun j hj => ⟨by rw [Int.mul_one]; exact ((hU i hi).2.2 j hj).1, by rw [if_pos hj]; exact ((hU i hi).2.2 j hj).2⟩⟩)
  refine ⟨s.piv.length, by unfold rankS; rw [if_pos hv, h0, e]; rfl, h.rf.rank h.ro (Nat.le_refl m)⟩
theorem dot_val {a : List R} {B : Rows} {j k0 : Nat} {X Y : Nat → Int} {t u : Int} {N1 N2 : Nat} (ht : t ≠ 0) (hu : u ≠ 0)
    (hX : ∀ k, k < k0 → okR (rAt a k) = true ∧ qv (rAt a k) = (X k : Rat) / (t : Rat) ∧ (X k).natAbs ≤ N1)
    (hY : ∀ k, k < k0 → okR (rAt (B k) j) = true ∧ qv (rAt (B k) j) = (Y k : Rat) / (u : Rat) ∧ (Y k).natAbs ≤ N2)
    (h1 : (k0 + 1) * (N1 * N2) * (t.natAbs * u.natAbs) < T200) (h2 : (t.natAbs * u.natAbs) * (t.natAbs * u.natAbs) < T200) :
    ∀ (f k : Nat) (s : R) (V : Int), k + f = k0 → okR s = true → qv s = (V : Rat) / ((t * u : Int) : Rat) → V.natAbs ≤ k * (N1 * N2) →
      ∃ (d : R) (V' : Int), dotL a B j f k s = some d ∧ okR d = true ∧ qv d = (V' : Rat) / ((t * u : Int) : Rat) ∧ V'.natAbs ≤ k0 * (N1 * N2) ∧ qv d = qv s + sm f (fun l => qv (rAt a (k + l)) * qv (rAt (B (k + l)) j))
  | 0, k, s, V, hk, hs, hq, hV => ⟨s, V, rfl, hs, hq, by rw [show k0 = k by omega]; exact hV, by simp only [sm]; grind⟩
  | f + 1, k, s, V, hk, hs, hq, hV => by
    obtain ⟨x1, x2, x3⟩ := hX k (by omega)
    obtain ⟨y1, y2, y3⟩ := hY k (by omega)
    have hp1 : 1 ≤ t.natAbs * u.natAbs := Nat.mul_pos (by omega) (by omega)
    have htu : t * u ≠ 0 := fun e => by rcases Int.mul_eq_zero.1 e with e | e <;> contradiction
    have b1 : N1 * N2 * (t.natAbs * u.natAbs) < T200 := Nat.lt_of_le_of_lt (Nat.mul_le_mul_right _ (Nat.le_mul_of_pos_left _ (by omega))) h1
    have bx := Bq.of (N := N1) (D := t.natAbs) x1 ht x2 x3 (Nat.le_refl _)
    have by_ := Bq.of (N := N2) (D := u.natAbs) y1 hu y2 y3 (Nat.le_refl _)
    obtain ⟨p, p1, p2, p3⟩ := mulR_val bx by_ (Nat.lt_of_le_of_lt (Nat.le_mul_of_pos_right _ hp1) b1) (Nat.lt_of_le_of_lt (Nat.le_mul_of_pos_left _ hp1) h2)
    have q1 := rat_ne ht
    have q2 := rat_ne hu
    have hpq : qv p = ((X k * Y k : Int) : Rat) / ((t * u : Int) : Rat) := by rw [p3, Rat.intCast_mul, Rat.intCast_mul]; grind
    have hXY : (X k * Y k).natAbs ≤ N1 * N2 := by rw [Int.natAbs_mul]; exact Nat.mul_le_mul x3 y3
    have bs := Bq.of (N := k0 * (N1 * N2)) (D := t.natAbs * u.natAbs) hs htu hq (Nat.le_trans hV (Nat.mul_le_mul_right _ (by omega))) (by rw [Int.natAbs_mul]; exact Nat.le_refl _)
    have bp := Bq.of (N := N1 * N2) (D := t.natAbs * u.natAbs) p2 htu hpq hXY (by rw [Int.natAbs_mul]; exact Nat.le_refl _)
    obtain ⟨s', s1, s2, s3⟩ := addR_val bs bp (by rw [← Nat.add_mul, show k0 * (N1 * N2) + N1 * N2 = (k0 + 1) * (N1 * N2) by rw [Nat.add_mul, Nat.one_mul]]; exact h1) h2
    have q3 := rat_ne htu
    have hs' : qv s' = ((V + X k * Y k : Int) : Rat) / ((t * u : Int) : Rat) := by rw [s3, Rat.intCast_add]; grind
    obtain ⟨d, V', e, d1, d2, d3, d4⟩ := dot_val ht hu hX hY h1 h2 f (k + 1) s' (V + X k * Y k) (by omega) s2 hs' (by rw [Nat.add_mul, Nat.one_mul]; omega)
    refine ⟨d, V', by rw [dotL, p1]; show (match addR s p with | none => none | some s' => _) = _; rw [s1]; exact e, d1, d2, d3, ?_⟩
    rw [d4, sm_first, s3, ← hq, ← hpq, p3, ← x2, ← y2]
    rw [sm_congr (g := fun l => qv (rAt a (k + (l + 1))) * qv (rAt (B (k + (l + 1))) j)) (fun l _ => by rw [show k + 1 + l = k + (l + 1) by omega])]
    show _ + _ + _ = _ + (qv (rAt a (k + 0)) * qv (rAt (B (k + 0)) j) + _)
    grind
theorem row_val {a : List R} {B : Rows} {p k0 : Nat} (ha : a.length = k0) (P : Nat → R → Prop) (hd : ∀ j, j < p → ∃ d, dotL a B j k0 0 z0 = some d ∧ P j d) :
    ∀ (f j : Nat) (l : List R), j + f = p → l.length = j → (∀ i, i < j → P i (rAt l i)) → ∃ l', rowL a B f j l = some l' ∧ l'.length = p ∧ ∀ i, i < p → P i (rAt l' i)
  | 0, j, l, hj, hl, h => ⟨l, rfl, by omega, fun i hi => h i (by omega)⟩
  | f + 1, j, l, hj, hl, h => by
    obtain ⟨d, d1, d2⟩ := hd j (by omega)
    obtain ⟨l', e, h1, h2⟩ := row_val ha P hd f (j + 1) (l ++ [d]) (by omega) (by simp [hl]) (fun i hi => by
      by_cases e : i < j
      · rw [rAt_appL (by omega)]; exact h i e
      · rw [rAt_appR (by omega), show i = j by omega, hl, Nat.sub_self]; exact d2)
    exact ⟨l', by rw [rowL, ha, d1]; exact e, h1, h2⟩
theorem mat_val {L B : Rows} {n p : Nat} (P : Nat → List R → Prop) (hd : ∀ i, i < n → ∃ l, rowL (L i) B p 0 [] = some l ∧ P i l) :
    ∀ (f i : Nat) (K : Rows), i + f = n → (∀ k, k < i → P k (K k)) → ∃ K', matL L B p f i K = some K' ∧ ∀ k, k < n → P k (K' k)
  | 0, i, K, hi, h => ⟨K, rfl, fun k hk => h k (by omega)⟩
  | f + 1, i, K, hi, h => by
    obtain ⟨l, l1, l2⟩ := hd i (by omega)
    obtain ⟨K', e, h1⟩ := mat_val P hd f (i + 1) (updF K i l) (by omega) (fun k hk => by
      by_cases e : k = i
      · subst e; rw [updF_eq]; exact l2
      · rw [updF_ne _ _ e]; exact h k (by omega))
    exact ⟨K', by rw [matL, l1]; exact e, h1⟩
theorem mul_val {n k m N1 N2 : Nat} {L B : Rows} {t u : Int} (hn : 1 ≤ n) (hn8 : n ≤ 8) (hk : 1 ≤ k) (hk8 : k ≤ 8) (hm : 1 ≤ m) (hm8 : m ≤ 8) (okA : OkL n k L) (okB : OkL k m B) (hA : RepC n k L N1 t) (hB : RepC k m B N2 u) (ht : t ≠ 0) (hu : u ≠ 0)
    (h1 : (k + 1) * (N1 * N2) * (t.natAbs * u.natAbs) < T200) (h2 : (t.natAbs * u.natAbs) * (t.natAbs * u.natAbs) < T200) :
    ∃ K, mulS n L k B = some K ∧ OkL n m K ∧ Eq2 n m (Q K) (La.mul k (Q L) (Q B)) ∧ RepC n m K (k * (N1 * N2)) (t * u) := by
  obtain ⟨v1, l1⟩ := vM_mk hn hn8 hk hk8 okA
  obtain ⟨v2, l2⟩ := vM_mk hk hk8 hm hm8 okB
  obtain ⟨X, hX⟩ := hA
  obtain ⟨Y, hY⟩ := hB
  obtain ⟨K, e, hK⟩ := mat_val (L := L) (B := B) (n := n) (p := m) (fun i l => l.length = m ∧ ∀ j, j < m → okR (rAt l j) = true ∧ qv (rAt l j) = La.mul k (Q L) (Q B) i j ∧ ∃ V : Int, qv (rAt l j) = (V : Rat) / ((t * u : Int) : Rat) ∧ V.natAbs ≤ k * (N1 * N2)) (fun i hi => by
    obtain ⟨l, e, h3, h4⟩ := row_val (a := L i) (B := B) (p := m) (okA i hi).1 (fun j d => okR d = true ∧ qv d = La.mul k (Q L) (Q B) i j ∧ ∃ V : Int, qv d = (V : Rat) / ((t * u : Int) : Rat) ∧ V.natAbs ≤ k * (N1 * N2)) (fun j hj => by
      obtain ⟨d, V, e, d1, d2, d3, d4⟩ := dot_val (a := L i) (B := B) (j := j) (k0 := k) (X := X i) (Y := fun l => Y l j) ht hu (fun l hl => ⟨(okA i hi).2 l hl, hX i hi l hl⟩) (fun l hl => ⟨(okB l hl).2 j hj, hY l hl j hj⟩) h1 h2 k 0 z0 0 (by omega) okz (by rw [qv_z0]; simp; grind) (by simp)
      refine ⟨d, e, d1, ?_, V, d2, d3⟩
      rw [d4, qv_z0]
      show 0 + _ = sm k _
      rw [sm_congr (g := fun l => Q L i l * Q B l j) (fun l _ => by rw [Nat.zero_add]; rfl)]; grind) m 0 [] (by omega) rfl (fun i hi => by omega)
    exact ⟨l, e, h3, h4⟩) n 0 nilR (by omega) (fun k hk => by omega)
  refine ⟨K, by unfold mulS mulM; rw [if_pos ⟨v1, v2, l1⟩, l2]; exact e, fun i hi => ⟨(hK i hi).1, fun j hj => ((hK i hi).2 j hj).1⟩, fun i hi j hj => ((hK i hi).2 j hj).2.1, ?_⟩
  exact RepC.mk fun i hi j hj => ((hK i hi).2 j hj).2.2
theorem make_rep {n m : Nat} {L : Rows} (h : MakeR n m L) : OkL n m L ∧ RepC n m L 48 6 := by
  refine ⟨fun i hi => ⟨(h i hi).1, fun j hj => ((h i hi).2 j hj).1⟩, fun i j => valZ (rAt (L i) j).1 * (6 / valZ (rAt (L i) j).2), fun i hi j hj => ?_⟩
  obtain ⟨h1, ⟨h2, h3⟩, h4⟩ := (h i hi).2 j hj
  have h5 := okR_pos h1
  show (valZ (rAt (L i) j).1 : Rat) / (valZ (rAt (L i) j).2 : Rat) = ((valZ (rAt (L i) j).1 * (6 / valZ (rAt (L i) j).2) : Int) : Rat) / ((6 : Int) : Rat) ∧ (valZ (rAt (L i) j).1 * (6 / valZ (rAt (L i) j).2)).natAbs ≤ 48
  generalize valZ (rAt (L i) j).1 = a at *
  generalize valZ (rAt (L i) j).2 = b at *
  have : b = 1 ∨ b = 2 ∨ b = 3 := by omega
  rcases this with rfl | rfl | rfl
  · refine ⟨?_, by omega⟩
    rw [Rat.intCast_mul]; simp; grind
  · refine ⟨?_, by omega⟩
    rw [Rat.intCast_mul]; simp; grind
  · refine ⟨?_, by omega⟩
    rw [Rat.intCast_mul]; simp; grind
theorem tr_q {n m : Nat} {L : Rows} (i j : Nat) (hj : j < n) : Q (fun j => trR L n j) i j = tr (Q L) i j := by
  unfold Q tr; dsimp only; rw [trR_at _ _ hj]
theorem rank_law {n k m : Nat} {A B : Rows} (hn : 1 ≤ n) (hn5 : n ≤ 5) (hk : 1 ≤ k) (hk5 : k ≤ 5) (hm : 1 ≤ m) (hm5 : m ≤ 5) (hA : MakeR n k A) (hB : MakeR k m B) :
    ∃ K p q r, mulS n A k B = some K ∧ OkL n m K ∧ rankS n A = some p ∧ rankS k B = some q ∧ rankS n K = some r ∧ OkL k n (fun j => trR A n j) ∧ rankS k (fun j => trR A n j) = some p ∧ vM n A = true ∧ (A 0).length = k ∧ p ≤ n ∧ p ≤ k ∧ r ≤ p ∧ r ≤ q ∧ p + q ≤ r + k := by
  obtain ⟨okA, rA⟩ := make_rep hA
  obtain ⟨okB, rB⟩ := make_rep hB
  obtain ⟨v1, l1⟩ := vM_mk hn (by omega) hk (by omega) okA
  have g1 : grB 5 5 1 48 48 6 = true := by decide +kernel
  have g2 : grB 5 5 1 11520 11520 36 = true := by decide +kernel
  obtain ⟨p, ep, hp⟩ := rank_val hn (by omega) hk (by omega) okA (rA.rep (by decide)) (Gr.of g1 (by decide) (by decide) (by decide) (.inl hn5) hk5)
  obtain ⟨q, eq, hq⟩ := rank_val hk (by omega) hm (by omega) okB (rB.rep (by decide)) (Gr.of g1 (by decide) (by decide) (by decide) (.inl hk5) hm5)
  have hc : (k + 1) * (48 * 48) * ((6 : Int).natAbs * (6 : Int).natAbs) < T200 := by
    refine Nat.lt_of_le_of_lt (Nat.mul_le_mul_right _ (Nat.mul_le_mul_right _ (by omega : k + 1 ≤ 6))) (by decide +kernel)
  obtain ⟨K, eK, okK, hK, ⟨U, hU⟩⟩ := mul_val hn (by omega) hk (by omega) hm (by omega) okA okB rA rB (by decide) (by decide) hc (by decide +kernel)
  have rK : Rep n m K 11520 36 := by
    refine ⟨U, fun _ => 36, fun i hi => ⟨show (36 : Int) ≠ 0 by decide, show Int.natAbs 36 ≤ 36 by decide, fun j hj => ⟨(hU i hi j hj).1, ?_⟩⟩⟩
    have := (hU i hi j hj).2; omega
  obtain ⟨r, er, hr⟩ := rank_val hn (by omega) hm (by omega) okK rK (Gr.of g2 (by decide) (by decide) (by decide) (.inl hn5) hm5)
  have okT : OkL k n (fun j => trR A n j) := fun j hj => ⟨trR_len _ _ _, fun i hi => by rw [trR_at _ _ hi]; exact (okA i hi).2 j hj⟩
  obtain ⟨UA, hUA⟩ := rA
  have rT : Rep k n (fun j => trR A n j) 48 6 := ⟨fun i j => UA j i, fun _ => 6, fun i hi => ⟨show (6 : Int) ≠ 0 by decide, show Int.natAbs 6 ≤ 6 by decide, fun j hj => by rw [tr_q (m := k) i j hj]; exact hUA j hj i hi⟩⟩
  obtain ⟨p', ep', hp'⟩ := rank_val hk (by omega) hn (by omega) okT rT (Gr.of g1 (by decide) (by decide) (by decide) (.inl hk5) hn5)
  have hpp : p' = p := by
    have h1 : Rk k n p (tr (Q A)) := hp.tr
    obtain ⟨C, F, CL, FR, h2⟩ := hp'
    exact Rk.uniq ⟨C, F, CL, FR, ⟨fun i hi j hj => by rw [← tr_q (m := k) i j hj]; exact h2.eq i hi j hj, h2.cl, h2.fr⟩⟩ h1
  have hr' : Rk n m r (La.mul k (Q A) (Q B)) := by
    obtain ⟨C, F, CL, FR, h2⟩ := hr
    exact ⟨C, F, CL, FR, ⟨fun i hi j hj => by rw [← hK i hi j hj]; exact h2.eq i hi j hj, h2.cl, h2.fr⟩⟩
  refine ⟨K, p, q, r, eK, okK, ep, eq, er, okT, by rw [ep', hpp], v1, l1, hp.le_n, hp.le_m, hp.mul_l hr', hq.mul_r hr', ?_⟩
  have := hp.mul_ge hq hr'
  omega
end Go.Proofs.YtepcnphmfbbhiaaGreatDoor
set_option linter.all false
namespace Go.Proofs.YtepcnphmfbbhiaaGreatDoor
open Go Go.Eng Go.RowKit La
theorem solF_val {cols : List Nat} {L : Rows} {n m r : Nat} (ok : OkL n (m + 1) L) (hrn : r ≤ n) (hi : ∀ a b, a < b → b < r → cols.getD a 0 < cols.getD b 0) (hl : ∀ a, a < r → cols.getD a 0 < m) :
    ∀ (f i : Nat) (x : List R), i + f = r → x.length = m → (∀ t, t < m → okR (rAt x t) = true ∧ qv (rAt x t) = sm i (fun l => if t = cols.getD l 0 then Q L l m else 0)) →
      (solF cols L m f i x).length = m ∧ ∀ t, t < m → okR (rAt (solF cols L m f i x) t) = true ∧ qv (rAt (solF cols L m f i x) t) = sm r (fun l => if t = cols.getD l 0 then Q L l m else 0)
  | 0, i, x, h, hx, hv => ⟨hx, by rw [show r = i by omega]; exact hv⟩
  | f + 1, i, x, h, hx, hv => by
    rw [solF]
    have hc := hl i (by omega)
    refine solF_val ok hrn hi hl f (i + 1) _ (by omega) (by rw [List.length_set]; exact hx) (fun t ht => ?_)
    rw [rAt_set (by omega)]
    by_cases e : t = cols.getD i 0
    · rw [if_pos e]
      refine ⟨(ok i (by omega)).2 m (by omega), ?_⟩
      show Q L i m = sm i _ + (if t = cols.getD i 0 then Q L i m else 0)
      rw [if_pos e, sm_zero (fun l hl' => by rw [if_neg (fun e2 => by have := hi l i hl' (by omega); omega)])]; grind
    · rw [if_neg e]
      refine ⟨(hv t ht).1, ?_⟩
      show _ = sm i _ + (if t = cols.getD i 0 then Q L i m else 0)
      rw [if_neg e, (hv t ht).2]; grind
def Sol (n m : Nat) (L : Rows) (b : List R) (v : Nat → Rat) : Prop := ∀ i, i < n → qv (rAt b i) = sm m (fun t => Q L i t * v t)
theorem besC_l {n m : Nat} {L : Rows} {b : List R} (ok : OkL n m L) {i j : Nat} (hi : i < n) (hj : j < m) : Q (besC L b) i j = Q L i j := by
  unfold Q besC; rw [rAt_appL (by rw [(ok i hi).1]; exact hj)]
theorem besC_r {n m : Nat} {L : Rows} {b : List R} (ok : OkL n m L) {i : Nat} (hi : i < n) : Q (besC L b) i m = qv (rAt b i) := by
  unfold Q besC; rw [rAt_appR (by rw [(ok i hi).1]; omega), (ok i hi).1, Nat.sub_self]; rfl
theorem rk_cong {n m r : Nat} {A B : Mx} (h : Rk n m r A) (e : Eq2 n m A B) : Rk n m r B := by
  obtain ⟨C, F, CL, FR, h⟩ := h
  exact ⟨C, F, CL, FR, ⟨fun i hi j hj => by rw [← e i hi j hj]; exact h.eq i hi j hj, h.cl, h.fr⟩⟩
theorem solve_val {n m N1 N2 V D : Nat} {L : Rows} {b : List R} (hn : 1 ≤ n) (hn8 : n ≤ 8) (hm : 1 ≤ m) (hm8 : m ≤ 8) (ok : OkL n m L) (hb : b.length = n) (okb : ∀ i, i < n → okR (rAt b i) = true)
    (X : Nat → Nat → Int) (Y : Nat → Int) (t : Nat → Int) (u : Int) (ht : ∀ i, i < n → t i ≠ 0 ∧ (t i).natAbs ≤ D) (hu : u ≠ 0 ∧ u.natAbs ≤ V) (hV : 1 ≤ V)
    (hX : ∀ i, i < n → ∀ j, j < m → Q L i j = (X i j : Rat) / (t i : Rat) ∧ (X i j).natAbs ≤ N1) (hY : ∀ i, i < n → qv (rAt b i) = (Y i : Rat) / ((t i * u : Int) : Rat) ∧ (Y i).natAbs ≤ N2)
    (hg : Gr n (m + 1) m V (gA N1) (gB N1 N2) (gS N1 D)) :
    ∃ r, Rk n m r (Q L) ∧ ((solS n L b = none ∧ (∀ v, ¬ Sol n m L b v) ∧ Rk n (m + 1) (r + 1) (Q (besC L b))) ∨
      ∃ x, solS n L b = some (x, decide (r = m)) ∧ x.length = m ∧ (∀ k, k < m → okR (rAt x k) = true) ∧ Sol n m L b (fun k => qv (rAt x k)) ∧ (r = m → ∀ v, Sol n m L b v → ∀ k, k < m → v k = qv (rAt x k)) ∧ Rk n (m + 1) r (Q (besC L b)) ∧
        ∃ T : Int, T ≠ 0 ∧ T.natAbs ≤ gS N1 D r ∧ RepC m 1 (lastC x) (gB N1 N2 r * gS N1 D r) (T * u)) := by
  obtain ⟨hv, h0⟩ := vM_mk hn hn8 hm hm8 ok
  have hball : b.all okR = true := all_rAt.2 fun k hk => okb k (by omega)
  have okC : OkL n (m + 1) (besC L b) := by have := besC_ok (vM_T hv) hball hb.symm; rwa [h0] at this
  obtain ⟨s, e, h⟩ := elim_val (w := fun j => if j < m then 1 else u) (V := V) okC hg (fun j _ => by
      dsimp only
      split
      · exact ⟨by decide, hV, fun _ => rfl⟩
      · exact ⟨hu.1, hu.2, fun h => absurd h (by assumption)⟩) (Nat.le_succ m) (fun i j => if j < m then X i j else Y i) t (fun i hi => by
    refine ⟨(ht i hi).1, (ht i hi).2, fun j hj => ?_⟩
    by_cases e : j < m
    · simp only [if_pos e]
      rw [besC_l ok hi e, Int.mul_one]
      exact hX i hi j e
    · simp only [if_neg e]
      rw [show j = m by omega, besC_r ok hi]
      exact hY i hi)
  have hro := h.ro
  have hrf := h.rf
  have hwide : Eq2 n m (Q (besC L b)) (Q L) := fun i hi j hj => besC_l ok hi hj
  have hA : ∀ v : Nat → Rat, Sol n m L b v ↔ ∀ i, i < n → Q (besC L b) i m = sm m (fun t => Q (besC L b) i t * v t) := fun v => by
    constructor
    · intro hs i hi
      rw [besC_r ok hi, hs i hi]; exact sm_congr fun t ht => by rw [besC_l ok hi ht]
    · intro hs i hi
      rw [← besC_r ok hi, hs i hi]; exact sm_congr fun t ht => by rw [besC_l ok hi ht]
  have hlen := h.len
  refine ⟨s.piv.length, rk_cong (hrf.rank hro (Nat.le_succ m)) hwide, ?_⟩
  have hS : solS n L b = solE n m s := by unfold solS; rw [if_pos ⟨hv, hball, hb.symm⟩, h0, e]; rfl
  have hrn := hrf.rn
  by_cases hz : ∀ k, s.piv.length ≤ k → k < n → Q s.L k m = 0
  · right
    have hf : ¬ fstI (pz s.L s.piv.length m) (n - s.piv.length) 0 < n - s.piv.length := fun hlt => by
      obtain ⟨i, h1, h2⟩ := fstI_lt.1 hlt
      have h3 := hz (i + s.piv.length) (by omega) (by omega)
      have h4 := (qv_zero ((h.ok (i + s.piv.length) (by omega)).2 m (by omega))).1 h3
      simp [pz, h4] at h2
    obtain ⟨x1, x2⟩ := solF_val h.ok hrn hrf.inc hrf.lt s.cols.length 0 (zs m) (by omega) (by unfold zs; simp) (fun t ht => by rw [zs_at ht, qv_z0]; exact ⟨okz, rfl⟩)
    refine ⟨solF s.cols s.L m s.cols.length 0 (zs m), by rw [hS]; unfold solE; rw [if_neg hf], x1, fun k hk => (x2 k hk).1, ?_, fun hrm v hs k hk => ?_, (hrf.ext_same hz).rank hro (Nat.le_refl _), ?_⟩
    · rw [hA]
      intro i hi
      rw [hrf.solves hro hz i hi]
      exact sm_congr fun t ht => by rw [(x2 t ht).2]; rfl
    · rw [(x2 k hk).2]
      have hrf2 : RF n m m (fun l => s.cols.getD l 0) (Q s.L) := by have := hrf; rwa [hrm] at this
      rw [hrm]
      exact RF.only hro hrf2 ((hA v).1 hs) k hk
    · obtain ⟨U, tt, T, ⟨T1, T2, T3⟩, hU⟩ := h.bnd
      refine ⟨T, T1, T2, RepC.mk fun i hi j hj => ?_⟩
      show ∃ V : Int, qv (rAt [rAt _ i] j) = _ ∧ _
      rw [show j = 0 by omega]
      show ∃ V : Int, qv (rAt (solF s.cols s.L m s.cols.length 0 (zs m)) i) = _ ∧ _
      rw [(x2 i hi).2]
      by_cases hl : ∃ l, l < s.piv.length ∧ i = s.cols.getD l 0
      · obtain ⟨l, l1, l2⟩ := hl
        rw [sm_one l1 (fun l' h1 h2 => by
          rw [if_neg (fun e => ?_)]
          rcases Nat.lt_or_gt_of_ne h2 with h3 | h3
          · have := hrf.inc l' l h3 l1; omega
          · have := hrf.inc l l' h3 h1; omega), if_pos l2]
        obtain ⟨g1, g2, g3⟩ := hU l (by omega)
        obtain ⟨g4, g5⟩ := g3 m (by omega)
        rw [if_neg (Nat.lt_irrefl m)] at g4 g5
        obtain ⟨q, hq⟩ := T3 l l1
        refine ⟨U l m * q, ?_, ?_⟩
        · have q1 := rat_ne g1
          have q2 := rat_ne hu.1
          have q3 : (q : Rat) ≠ 0 := rat_ne (fun e => T1 (by rw [hq, e]; simp))
          rw [g4, hq, Rat.intCast_mul, Rat.intCast_mul, Rat.intCast_mul, Rat.intCast_mul]; grind
        · rw [Int.natAbs_mul]
          refine Nat.mul_le_mul g5 (Nat.le_trans ?_ T2)
          rw [hq, Int.natAbs_mul]; exact Nat.le_mul_of_pos_left _ (by omega)
      · exact ⟨0, by rw [sm_zero (fun l h1 => by rw [if_neg (fun e => hl ⟨l, h1, e⟩)])]; simp; grind, by simp⟩
  · left
    have hz : ∃ k, s.piv.length ≤ k ∧ k < n ∧ Q s.L k m ≠ 0 := Classical.byContradiction fun hn => hz fun k h1 h2 => Classical.byContradiction fun h3 => hn ⟨k, h1, h2, h3⟩
    obtain ⟨k, k1, k2, k3⟩ := hz
    have hf : fstI (pz s.L s.piv.length m) (n - s.piv.length) 0 < n - s.piv.length := fstI_lt.2 ⟨k - s.piv.length, by omega, by
      unfold pz; rw [show k - s.piv.length + s.piv.length = k by omega]
      simp only [Bool.not_eq_true', decide_eq_false_iff_not]
      intro e2
      exact k3 (by unfold Q; rw [e2]; exact qv_z0)⟩
    exact ⟨by rw [hS]; unfold solE; rw [if_pos hf], fun v hs => k3 (hrf.solvable hro ((hA v).1 hs) k k1 k2), hrf.ext_more hro k1 k2 k3⟩
end Go.Proofs.YtepcnphmfbbhiaaGreatDoor
set_option linter.all false
namespace Go.Proofs.YtepcnphmfbbhiaaGreatDoor
open Go Go.Eng Go.RowKit La
theorem vec_rep {q : R} (h : VecR q) {T : Int} (hT : valZ q.2 ∣ T) (h0 : T ≠ 0) : qv q = ((valZ q.1 * (T / valZ q.2) : Int) : Rat) / (T : Rat) ∧ (valZ q.1 * (T / valZ q.2)).natAbs ≤ 999 * T.natAbs := by
  obtain ⟨h1, h2, h3⟩ := h
  have h4 := okR_pos h1
  obtain ⟨c, hc⟩ := hT
  have e : T / valZ q.2 = c := by rw [hc]; exact Int.mul_ediv_cancel_left _ (by omega)
  have hc0 : c ≠ 0 := fun e => h0 (by rw [hc, e]; simp)
  have q1 := den_ne h1
  have q2 := rat_ne hc0
  rw [e]
  constructor
  · rw [hc, Rat.intCast_mul, Rat.intCast_mul]; unfold qv; grind
  · rw [Int.natAbs_mul, hc, Int.natAbs_mul]
    exact Nat.mul_le_mul (by omega) (Nat.le_mul_of_pos_left _ (by omega))
theorem common {l : List R} : ∀ m, (∀ k, k < m → VecR (rAt l k)) → ∃ T : Int, T ≠ 0 ∧ T.natAbs ≤ 60 ^ m ∧ ∀ k, k < m → valZ (rAt l k).2 ∣ T
  | 0, _ => ⟨1, by decide, by decide, fun _ h => absurd h (by omega)⟩
  | m + 1, h => by
    obtain ⟨T, h1, h2, h3⟩ := common m (fun k hk => h k (by omega))
    obtain ⟨g1, g2, g3⟩ := h m (by omega)
    have g4 := okR_pos g1
    refine ⟨T * valZ (rAt l m).2, fun e => by rcases Int.mul_eq_zero.1 e with e | e <;> omega, by rw [Int.natAbs_mul, Nat.pow_succ]; exact Nat.mul_le_mul h2 (by omega), fun k hk => ?_⟩
    by_cases e : k = m
    · subst e; exact ⟨T, by rw [Int.mul_comm]⟩
    · obtain ⟨c, hc⟩ := h3 k (by omega)
      exact ⟨c * valZ (rAt l m).2, by rw [hc, Int.mul_assoc]⟩
theorem unsolved_law {n m : Nat} {A : Rows} {b : List R} (hn : 1 ≤ n) (hn5 : n ≤ 5) (hm : 1 ≤ m) (hm5 : m ≤ 5) (hA : MakeR n m A) (hb : b.length = n) (hV : ∀ k, k < n → VecR (rAt b k)) :
    ∃ r s, OkL n (m + 1) (besC A b) ∧ rankS n A = some r ∧ rankS n (besC A b) = some s ∧ r ≤ n ∧ ((solS n A b = none ∧ s = r + 1) ∨ (∃ x o, solS n A b = some (x, o) ∧ s = r)) := by
  obtain ⟨okA, rA⟩ := make_rep hA
  have g1 : grB 5 5 1 48 48 6 = true := by decide +kernel
  have g2 : grB 5 6 1 2880 5994 360 = true := by decide +kernel
  have g3 : grB 5 6 1 5994 5994 360 = true := by decide +kernel
  obtain ⟨r, er, hr⟩ := rank_val hn (by omega) hm (by omega) okA (rA.rep (by decide)) (Gr.of g1 (by decide) (by decide) (by decide) (.inl hn5) hm5)
  obtain ⟨UA, hUA⟩ := rA
  have okb : ∀ i, i < n → okR (rAt b i) = true := fun i hi => (hV i hi).1
  obtain ⟨hv, h0⟩ := vM_mk hn (by omega) hm (by omega) okA
  have okC : OkL n (m + 1) (besC A b) := by have := besC_ok (vM_T hv) (all_rAt.2 fun k hk => okb k (by omega)) hb.symm; rwa [h0] at this
  have hd : ∀ i, i < n → 1 ≤ valZ (rAt b i).2 ∧ valZ (rAt b i).2 ≤ 60 := fun i hi => ⟨by have := okR_pos (okb i hi); omega, (hV i hi).2.2⟩
  have hX : ∀ i, i < n → ∀ j, j < m → Q A i j = ((UA i j * valZ (rAt b i).2 : Int) : Rat) / ((6 * valZ (rAt b i).2 : Int) : Rat) ∧ (UA i j * valZ (rAt b i).2).natAbs ≤ 2880 := fun i hi j hj => by
    obtain ⟨h1, h2⟩ := hUA i hi j hj
    obtain ⟨h3, h4⟩ := hd i hi
    have q1 := den_ne (okb i hi)
    refine ⟨by rw [h1, Rat.intCast_mul, Rat.intCast_mul]; grind, ?_⟩
    rw [Int.natAbs_mul]
    exact Nat.mul_le_mul h2 (by omega : (valZ (rAt b i).2).natAbs ≤ 60)
  have hY : ∀ i, i < n → qv (rAt b i) = ((valZ (rAt b i).1 * 6 : Int) : Rat) / ((6 * valZ (rAt b i).2 : Int) : Rat) ∧ (valZ (rAt b i).1 * 6).natAbs ≤ 5994 := fun i hi => by
    have q1 := den_ne (okb i hi)
    refine ⟨by rw [Rat.intCast_mul, Rat.intCast_mul]; unfold qv; simp; grind, ?_⟩
    have := (hV i hi).2.1
    omega
  have ht : ∀ i, i < n → 6 * valZ (rAt b i).2 ≠ 0 ∧ (6 * valZ (rAt b i).2).natAbs ≤ 360 := fun i hi => by have := hd i hi; omega
  obtain ⟨r', hr', hs⟩ := solve_val (V := 1) (D := 360) (N1 := 2880) (N2 := 5994) hn (by omega) hm (by omega) okA hb okb (fun i j => UA i j * valZ (rAt b i).2) (fun i => valZ (rAt b i).1 * 6) (fun i => 6 * valZ (rAt b i).2) 1 ht (by decide) (by decide) hX
    (fun i hi => by rw [Int.mul_one]; exact hY i hi) (Gr.of g2 (by decide) (by decide) (by decide) (.inl hn5) (by omega))
  have hrr : r' = r := Rk.uniq hr' hr
  subst hrr
  have rC : Rep n (m + 1) (besC A b) 5994 360 := ⟨fun i j => if j < m then UA i j * valZ (rAt b i).2 else valZ (rAt b i).1 * 6, fun i => 6 * valZ (rAt b i).2, fun i hi => ⟨(ht i hi).1, (ht i hi).2, fun j hj => by
    by_cases e : j < m
    · simp only [if_pos e]
      rw [besC_l okA hi e]
      exact ⟨(hX i hi j e).1, Nat.le_trans (hX i hi j e).2 (by decide)⟩
    · simp only [if_neg e]
      rw [show j = m by omega, besC_r okA hi]
      exact hY i hi⟩⟩
  obtain ⟨s, es, hs2⟩ := rank_val hn (by omega) (by omega : 1 ≤ m + 1) (by omega) okC rC (Gr.of g3 (by decide) (by decide) (by decide) (.inl hn5) (by omega))
  refine ⟨r', s, okC, er, es, by first | exact hr.le_n | exact hr'.le_n, ?_⟩
  rcases hs with ⟨h1, _, h3⟩ | ⟨x, h1, _, _, _, _, h3, _⟩
  · exact .inl ⟨h1, Rk.uniq hs2 h3⟩
  · exact .inr ⟨x, _, h1, Rk.uniq hs2 h3⟩
theorem gA_pos {a0 : Nat} (h : 1 ≤ a0) : ∀ r, 1 ≤ gA a0 r
  | 0 => h
  | r + 1 => by have := gA_pos h r; have := Nat.mul_pos this this; unfold gA; omega
theorem gB_mono {a0 b0 r s : Nat} (h : 1 ≤ a0) (hrs : r ≤ s) : gB a0 b0 r ≤ gB a0 b0 s := by
  induction hrs with
  | refl => exact Nat.le_refl _
  | @step s _ ih => exact Nat.le_trans ih (by rw [gB]; have := Nat.le_mul_of_pos_left (gB a0 b0 s) (gA_pos h s); omega)
theorem gS_mono {a0 s0 r s : Nat} (h : 1 ≤ a0) (hrs : r ≤ s) : gS a0 s0 r ≤ gS a0 s0 s := by
  induction hrs with
  | refl => exact Nat.le_refl _
  | @step s _ ih => exact Nat.le_trans ih (by rw [gS]; exact Nat.le_mul_of_pos_right _ (gA_pos h s))
theorem list_ext {l l' : List R} {m : Nat} (h : l.length = m) (h' : l'.length = m) (e : ∀ k, k < m → rAt l k = rAt l' k) : l = l' := by
  refine List.ext_getElem (by omega) fun k h1 h2 => ?_
  have := e k (by omega)
  rwa [rAt_get h1, rAt_get h2] at this
theorem lastC_ok {m : Nat} {l : List R} (h : ∀ k, k < m → okR (rAt l k) = true) : OkL m 1 (lastC l) := fun i hi => ⟨rfl, fun k hk => by rw [show k = 0 by omega]; exact h i hi⟩
theorem lastC_q {l : List R} {i j : Nat} (hj : j < 1) : Q (lastC l) i j = qv (rAt l i) := by rw [show j = 0 by omega]; rfl
theorem solves_law {n m : Nat} {A : Rows} {l : List R} (hn : 1 ≤ n) (hn5 : n ≤ 5) (hm : 1 ≤ m) (hm5 : m ≤ 5) (hA : MakeR n m A) (hl : l.length = m) (hV : ∀ k, k < m → VecR (rAt l k)) :
    ∃ K r, mulS n A m (lastC l) = some K ∧ OkL n 1 K ∧ rankS n A = some r ∧ r ≤ m ∧ ∀ bl : List R, bl.length = n → (∀ i, i < n → rAt bl i = rAt (K i) 0) →
      ∃ x K', solS n A bl = some (x, decide (r = m)) ∧ x.length = m ∧ (∀ k, k < m → okR (rAt x k) = true) ∧ mulS n A m (lastC x) = some K' ∧ OkL n 1 K' ∧ SameM n K' n K ∧ (r = m → x = l) := by
  obtain ⟨okA, rA⟩ := make_rep hA
  have g1 : grB 5 5 1 48 48 6 = true := by decide +kernel
  have g2 : grB 5 6 777600000 48 186437376000000 6 = true := by decide +kernel
  obtain ⟨r, er, hr⟩ := rank_val hn (by omega) hm (by omega) okA (rA.rep (by decide)) (Gr.of g1 (by decide) (by decide) (by decide) (.inl hn5) hm5)
  have okl : ∀ k, k < m → okR (rAt l k) = true := fun k hk => (hV k hk).1
  obtain ⟨T, T0, T1, T2⟩ := common m hV
  have T3 : T.natAbs ≤ 777600000 := Nat.le_trans T1 (Nat.le_trans (Nat.pow_le_pow_right (by decide) hm5) (by decide))
  have rl : RepC m 1 (lastC l) 776822400000 T := ⟨fun i _ => valZ (rAt l i).1 * (T / valZ (rAt l i).2), fun i hi j hj => by
    rw [lastC_q hj]
    obtain ⟨h1, h2⟩ := vec_rep (hV i hi) (T2 i hi) T0
    exact ⟨h1, Nat.le_trans h2 (Nat.le_trans (Nat.mul_le_mul_left _ T3) (by decide))⟩⟩
  have hm1 : m + 1 ≤ 6 := by omega
  obtain ⟨K, eK, okK, hK, UK, hUK⟩ := mul_val hn (by omega) hm (by omega) (by decide) (by decide) okA (lastC_ok okl) rA rl (by decide) T0
    (Nat.lt_of_le_of_lt (Nat.mul_le_mul (Nat.mul_le_mul_right _ hm1) (Nat.mul_le_mul_left _ T3)) (by decide +kernel))
    (Nat.lt_of_le_of_lt (Nat.mul_le_mul (Nat.mul_le_mul_left _ T3) (Nat.mul_le_mul_left _ T3)) (by decide +kernel))
  refine ⟨K, r, eK, okK, er, hr.le_m, fun bl hbl hbk => ?_⟩
  have okbl : ∀ i, i < n → okR (rAt bl i) = true := fun i hi => by rw [hbk i hi]; exact (okK i hi).2 0 (by decide)
  have hqb : ∀ i, i < n → qv (rAt bl i) = Q K i 0 := fun i hi => by rw [hbk i hi]; rfl
  obtain ⟨UA, hUA⟩ := rA
  obtain ⟨r', hr', hs⟩ := solve_val (V := 777600000) (D := 6) (N1 := 48) (N2 := 186437376000000) hn (by omega) hm (by omega) okA hbl okbl UA (fun i => UK i 0) (fun _ => 6) T (fun i _ => by decide) ⟨T0, T3⟩ (by decide) hUA
    (fun i hi => by
      obtain ⟨h1, h2⟩ := hUK i hi 0 (by decide)
      exact ⟨by rw [hqb i hi]; exact h1, Nat.le_trans h2 (Nat.le_trans (Nat.mul_le_mul_right _ hm5) (by decide))⟩) (Gr.of g2 (by decide) (by decide) (by decide) (.inl hn5) (by omega))
  have hrr : r' = r := Rk.uniq hr' hr
  subst hrr
  have hwant : Sol n m A bl (fun k => qv (rAt l k)) := fun i hi => by
    rw [hqb i hi, hK i hi 0 (by decide)]
    exact sm_congr fun k _ => by rw [lastC_q (by decide)]
  rcases hs with ⟨_, h2, _⟩ | ⟨x, h1, h2, h3, h4, h5, _, T', t1, t2, rx⟩
  · exact absurd hwant (h2 _)
  have hxl : r' = m → x = l := fun e => list_ext h2 hl fun k hk => qv_inj (h3 k hk) (okl k hk) (h5 e _ hwant k hk).symm
  by_cases e : r' = m
  · have hx := hxl e
    exact ⟨x, K, h1, h2, h3, by rw [hx]; exact eK, okK, ⟨rfl, fun _ _ => rfl⟩, hxl⟩
  · have hr4 : r' ≤ 4 := by have := hr.le_m; omega
    have b1 : gB 48 186437376000000 r' * gS 48 6 r' ≤ gB 48 186437376000000 4 * gS 48 6 4 := Nat.mul_le_mul (gB_mono (by decide) hr4) (gS_mono (by decide) hr4)
    have b2 : (T' * T).natAbs ≤ gS 48 6 4 * 777600000 := by rw [Int.natAbs_mul]; exact Nat.mul_le_mul (Nat.le_trans t2 (gS_mono (by decide) hr4)) T3
    obtain ⟨K', eK', okK', hK', _⟩ := mul_val hn (by omega) hm (by omega) (by decide) (by decide) okA (lastC_ok h3) ⟨UA, hUA⟩ rx (by decide) (fun e => by rcases Int.mul_eq_zero.1 e with e | e <;> contradiction)
      (Nat.lt_of_le_of_lt (Nat.mul_le_mul (Nat.mul_le_mul hm1 (Nat.mul_le_mul_left _ b1)) (Nat.mul_le_mul_left _ b2)) (by decide +kernel))
      (Nat.lt_of_le_of_lt (Nat.mul_le_mul (Nat.mul_le_mul_left _ b2) (Nat.mul_le_mul_left _ b2)) (by decide +kernel))
    refine ⟨x, K', h1, h2, h3, eK', okK', ⟨rfl, fun i hi => ?_⟩, hxl⟩
    refine list_ext (okK' i hi).1 (okK i hi).1 fun k hk => qv_inj ((okK' i hi).2 k hk) ((okK i hi).2 k hk) ?_
    rw [show k = 0 by omega]
    show Q K' i 0 = Q K i 0
    rw [hK' i hi 0 (by decide), ← hqb i hi, h4 i hi]
    exact sm_congr fun k _ => by rw [lastC_q (by decide)]
theorem okL_few {n m : Nat} {L : Rows} (h : OkL n m L) (hn : n ≤ 9) (hm : m ≤ 9) : Few n L := ⟨hn, fun i hi => ⟨by rw [(h i hi).1]; exact hm, fun k hk => lenR_ok ((h i hi).2 k (by rw [← (h i hi).1]; exact hk))⟩⟩
theorem ok_bdv {l : List R} (hl : l.length ≤ 1000000) (h : ∀ k, k < l.length → okR (rAt l k) = true) : BdV l := ⟨hl, fun k hk => lenR_ok (h k hk)⟩
end Go.Proofs.YtepcnphmfbbhiaaGreatDoor
set_option linter.all false
namespace Go.Proofs.YtepcnphmfbbhiaaGreatDoor
open Go Go.Eng Go.RowKit La
theorem both_eq {n d : Int} {q : R} (hd : d ≠ 0) (h : bothF n d = some q) : qv q = (n : Rat) / (d : Rat) := by
  obtain ⟨h1, h2⟩ := both_fits h
  unfold bothF at h
  rw [h1, h2, Bool.and_self, if_pos rfl] at h
  exact make_val hd h
theorem mulR_bq {a b : R} {x y : Rat} {N D N' D' : Nat} (ha : Bq a x N D) (hb : Bq b y N' D') (h1 : N * N' < T200) (h2 : D * D' < T200) : ∃ q, mulR a b = some q ∧ Bq q (x * y) (N * N') (D * D') := by
  obtain ⟨q, e, ok, hv⟩ := mulR_val ha hb h1 h2
  have p1 := okR_pos ha.ok
  have p2 := okR_pos hb.ok
  have q1 := den_ne ha.ok
  have q2 := den_ne hb.ok
  have hq : qv q = ((valZ a.1 * valZ b.1 : Int) : Rat) / ((valZ a.2 * valZ b.2 : Int) : Rat) := by
    rw [hv, ← ha.eq, ← hb.eq, Rat.intCast_mul, Rat.intCast_mul]; unfold qv; grind
  have := Bq.of (N := N * N') (D := D * D') ok (fun e => by rcases Int.mul_eq_zero.1 e with e | e <;> omega) hq (by rw [Int.natAbs_mul]; exact Nat.mul_le_mul ha.num hb.num) (by rw [Int.natAbs_mul]; exact Nat.mul_le_mul ha.den hb.den)
  exact ⟨q, e, ok, hv, this.num, this.den⟩
def pA (a : Nat → Nat) : Nat → Nat
  | 0 => 1
  | r + 1 => pA a r * a r
theorem prod_val {l : List R} {a S : Nat → Nat} (hp : ∀ k, k < l.length → Bq (l.getD k z0) (qv (l.getD k z0)) (a k) (S k)) (hA : ∀ k, k ≤ l.length → pA a k < T200) (hS : ∀ k, k ≤ l.length → pA S k < T200) :
    ∀ (f i : Nat) (d : R) (x : Rat), i + f = l.length → Bq d x (pA a i) (pA S i) → ∃ p, prodF l f i d = some p ∧ Bq p (x * prd (l.drop i)) (pA a l.length) (pA S l.length)
  | 0, i, d, x, h, hb => ⟨d, rfl, by rw [show i = l.length by omega] at hb ⊢; rw [List.drop_length]; simpa [prd] using hb⟩
  | f + 1, i, d, x, h, hb => by
    have hi : i < l.length := by omega
    have hb2 := hp i hi
    have hr : rAt l i = l.getD i z0 := by rw [rAt_get hi]; simp [List.getD, hi]
    obtain ⟨q, e, hq⟩ := mulR_bq hb hb2 (hA (i + 1) (by omega)) (hS (i + 1) (by omega))
    obtain ⟨p, e2, hp2⟩ := prod_val hp hA hS f (i + 1) q _ (by omega) hq
    refine ⟨p, by rw [prodF, hr, e]; exact e2, ?_⟩
    rw [show l.drop i = l.getD i z0 :: l.drop (i + 1) by rw [List.drop_eq_getElem_cons hi]; simp [List.getD, hi], prd, ← Rat.mul_assoc]
    exact hp2
theorem sub_eq {a b q : R} (h : subR a b = some q) : qv q = qv a - qv b := by
  unfold subR at h
  split at h
  · rename_i hh
    simp only [Bool.and_eq_true] at hh
    split at h
    · have p1 := okR_pos hh.1
      have p2 := okR_pos hh.2
      rw [both_eq (fun e => by rcases Int.mul_eq_zero.1 e with e | e <;> omega) h, Rat.intCast_mul, Rat.intCast_sub, Rat.intCast_mul, Rat.intCast_mul]
      have q1 := den_ne hh.1
      have q2 := den_ne hh.2
      unfold qv; grind
    · cases h
  · cases h
theorem negR_q {d : R} (h : okR d = true) : okR (negR d) = true ∧ qv (negR d) = - qv d := by
  refine ⟨okR_neg h, ?_⟩
  rw [sub_eq (negR_some h), qv_z0]; grind
theorem det_end {n : Nat} {L : Rows} {a b S : Nat → Nat} {s : El} (hn : 1 ≤ n) (hn8 : n ≤ 8) (ok : OkL n n L) (e : elim n n n L = some s) (h : EI n n n n (fun _ => 1) (Q L) a b S s) (hA : ∀ k, k ≤ n → pA a k < T200) (hS : ∀ k, k ≤ n → pA S k < T200) :
    ∃ d r, detS n L = some d ∧ okR d = true ∧ qv d = det n (Q L) ∧ rankS n L = some r ∧ Rk n n r (Q L) ∧ (det n (Q L) = 0 ↔ r < n) ∧ ∀ X, det n (La.mul n (Q L) X) = det n (Q L) * det n X := by
  obtain ⟨hv, h0⟩ := vM_mk hn hn8 hn hn8 ok
  have hdi := h.rf.det_iff h.ro (Nat.le_refl n)
  have hrn := h.rf.rn
  have hrank : rankS n L = some s.piv.length := by unfold rankS; rw [if_pos hv, h0, e]; rfl
  have hdet : detS n L = detE n s := by unfold detS; rw [if_pos (sqB_mk hv h0.symm), e]; rfl
  have hne := h.ro.ne
  have hiff : det n (Q L) = 0 ↔ s.piv.length < n := by
    constructor
    · intro e2
      rcases Nat.lt_or_ge s.piv.length n with h1 | h1
      · exact h1
      · rw [hdi.1 (by omega)] at e2; exact absurd e2 hne
    · exact hdi.2
  have hrk := h.rf.rank h.ro (Nat.le_refl n)
  have hmul := fun X => h.rf.det_mul h.ro (Nat.le_refl n) X
  by_cases hlt : s.piv.length < n
  · refine ⟨z0, s.piv.length, by rw [hdet]; unfold detE; rw [if_pos hlt], okz, by rw [qv_z0, hdi.2 hlt], hrank, hrk, hiff, hmul⟩
  · obtain ⟨d, e2, hd⟩ := prod_val h.pv (fun k hk => hA k (by omega)) (fun k hk => hS k (by omega)) s.piv.length 0 o1 1 (by omega) ⟨oko, qv_o1, show (valZ o1.1).natAbs ≤ 1 by decide +kernel, show (valZ o1.2).natAbs ≤ 1 by decide +kernel⟩
    have hval : qv d = prd s.piv := by rw [hd.eq, List.drop_zero]; grind
    have hdd : detS n L = some (if s.sw % 2 = 1 then negR d else d) := by rw [hdet]; unfold detE; rw [if_neg hlt, e2]; rfl
    have hf := hdi.1 (by omega)
    refine ⟨_, s.piv.length, hdd, ?_, ?_, hrank, hrk, hiff, hmul⟩
    · split
      · exact (negR_q hd.ok).1
      · exact hd.ok
    · rw [hf]
      unfold sgw
      by_cases e3 : s.sw % 2 = 1
      · rw [if_pos e3, if_neg (by omega), (negR_q hd.ok).2, hval]; grind
      · rw [if_neg e3, if_pos (by omega), hval]; grind
theorem det_val {n N D : Nat} {L : Rows} (hn : 1 ≤ n) (hn8 : n ≤ 8) (ok : OkL n n L) (hr : Rep n n L N D) (hg : Gr n n n 1 (gA N) (gB N N) (gS N D)) (hA : ∀ k, k ≤ n → pA (gA N) k < T200) (hS : ∀ k, k ≤ n → pA (gS N D) k < T200) :
    ∃ d r, detS n L = some d ∧ okR d = true ∧ qv d = det n (Q L) ∧ rankS n L = some r ∧ Rk n n r (Q L) ∧ (det n (Q L) = 0 ↔ r < n) ∧ ∀ X, det n (La.mul n (Q L) X) = det n (Q L) * det n X := by
  obtain ⟨U, t, hU⟩ := hr
  obtain ⟨s, e, h⟩ := elim_val (w := fun _ => 1) ok hg (fun j _ => ⟨show (1 : Int) ≠ 0 by decide, show Int.natAbs 1 ≤ 1 by decide, fun _ => rfl⟩) (Nat.le_refl n) U t (fun i hi => ⟨(hU i hi).1, (hU i hi).2.1, fun j hj => ⟨by rw [Int.mul_one]; exact ((hU i hi).2.2 j hj).1, by rw [if_pos hj]; exact ((hU i hi).2.2 j hj).2⟩⟩)
  exact det_end hn hn8 ok e h hA hS
end Go.Proofs.YtepcnphmfbbhiaaGreatDoor
set_option linter.all false
namespace Go.Proofs.YtepcnphmfbbhiaaGreatDoor
open Go Go.Eng Go.RowKit La
def pB (a0 s0 R : Nat) : Bool := (List.range (R + 1)).all fun k => Nat.blt (pA (gA a0) k) T200 && Nat.blt (pA (gS a0 s0) k) T200
theorem pB_get {a0 s0 R : Nat} (h : pB a0 s0 R = true) {k : Nat} (hk : k ≤ R) : pA (gA a0) k < T200 ∧ pA (gS a0 s0) k < T200 := by
  have := List.all_eq_true.1 h k (List.mem_range.2 (by omega))
  simpa only [Bool.and_eq_true, Nat.blt_eq] using this
theorem det_of {n N D : Nat} {L : Rows} (hn : 1 ≤ n) (hn4 : n ≤ 4) (ok : OkL n n L) (hr : Rep n n L N D) (hN : 1 ≤ N) (hD : 1 ≤ D) (hg : grB 4 4 1 N N D = true) (hp : pB N D 4 = true) :
    ∃ d r, detS n L = some d ∧ okR d = true ∧ qv d = det n (Q L) ∧ rankS n L = some r ∧ Rk n n r (Q L) ∧ (det n (Q L) = 0 ↔ r < n) ∧ ∀ X, det n (La.mul n (Q L) X) = det n (Q L) * det n X :=
  det_val hn (by omega) ok hr (Gr.of hg (by decide) hN hD (.inl hn4) hn4) (fun k hk => (pB_get hp (by omega)).1) (fun k hk => (pB_get hp (by omega)).2)
theorem cast_pow (t : Int) : ∀ n : Nat, ((t ^ n : Int) : Rat) = (t : Rat) ^ n
  | 0 => by rw [Int.pow_zero, Rat.pow_zero]; rfl
  | n + 1 => by rw [Int.pow_succ, Rat.pow_succ, Rat.intCast_mul, cast_pow t n]
theorem ipow_ne {t : Int} (h : t ≠ 0) : ∀ n : Nat, t ^ n ≠ 0
  | 0 => by simp
  | n + 1 => by rw [Int.pow_succ]; intro e; exact (Int.mul_eq_zero.1 e).elim (ipow_ne h n) h
theorem natAbs_pow (t : Int) : ∀ n : Nat, (t ^ n).natAbs = t.natAbs ^ n
  | 0 => by simp
  | n + 1 => by rw [Int.pow_succ, Nat.pow_succ, Int.natAbs_mul, natAbs_pow t n]
theorem det_frac {n : Nat} {A : Mx} {U : Nat → Nat → Int} {t : Int} {N : Nat → Nat} (ht : t ≠ 0) (h : ∀ i, i < n → ∀ j, j < n → A i j = (U i j : Rat) / (t : Rat) ∧ (U i j).natAbs ≤ N j) :
    ∃ z : Int, det n A = (z : Rat) / ((t ^ n : Int) : Rat) ∧ z.natAbs ≤ fac n * pN N n := by
  obtain ⟨z, h1, h2⟩ := det_int n (fun i j => (U i j : Rat)) N (fun i hi j hj => ⟨U i j, rfl, (h i hi j hj).2⟩)
  refine ⟨z, ?_, h2⟩
  rw [det_congr (A := A) (B := fun i j => (U i j : Rat) / (t : Rat)) (fun i hi j hj => (h i hi j hj).1), det_div (t : Rat) (rat_ne ht) n, h1, cast_pow]
theorem make_det {n : Nat} {A : Rows} (hn4 : n ≤ 4) (hA : MakeR n n A) {d : R} (ok : okR d = true) (hq : qv d = det n (Q A)) : Bq d (det n (Q A)) 130000000 1296 := by
  obtain ⟨_, U, hU⟩ := make_rep hA
  obtain ⟨z, h1, h2⟩ := det_frac (N := fun _ => 48) (by decide : (6 : Int) ≠ 0) hU
  rw [pN_const] at h2
  have h3 : fac n * 48 ^ n ≤ 130000000 := by
    have : n = 0 ∨ n = 1 ∨ n = 2 ∨ n = 3 ∨ n = 4 := by omega
    rcases this with rfl | rfl | rfl | rfl | rfl <;> decide
  have h4 : ((6 : Int) ^ n).natAbs ≤ 1296 := by
    have : n = 0 ∨ n = 1 ∨ n = 2 ∨ n = 3 ∨ n = 4 := by omega
    rcases this with rfl | rfl | rfl | rfl | rfl <;> decide
  have := Bq.of (N := 130000000) (D := 1296) ok (ipow_ne (by decide) n) (by rw [hq]; exact h1) (Nat.le_trans h2 h3) h4
  exact ⟨this.ok, hq, this.num, this.den⟩
theorem det_law {n : Nat} {A : Rows} (hn : 1 ≤ n) (hn4 : n ≤ 4) (hA : MakeR n n A) : ∃ d r, detS n A = some d ∧ okR d = true ∧ qv d = det n (Q A) ∧ rankS n A = some r ∧ r ≤ n ∧ (d = z0 ↔ r < n) ∧ (∀ X, det n (La.mul n (Q A) X) = det n (Q A) * det n X) := by
  obtain ⟨ok, rA⟩ := make_rep hA
  obtain ⟨d, r, h1, h2, h3, h4, h5, h6, h7⟩ := det_of hn hn4 ok (rA.rep (by decide)) (by decide) (by decide) (by decide +kernel) (by decide +kernel)
  exact ⟨d, r, h1, h2, h3, h4, h5.le_n, by rw [← qv_zero h2, h3]; exact h6, h7⟩
theorem mul_eq {a b q : R} (h : mulR a b = some q) : okR q = true ∧ qv q = qv a * qv b := by
  refine ⟨okR_mul h, ?_⟩
  unfold mulR at h
  split at h
  · rename_i hh
    simp only [Bool.and_eq_true] at hh
    have p1 := okR_pos hh.1
    have p2 := okR_pos hh.2
    rw [both_eq (fun e => by rcases Int.mul_eq_zero.1 e with e | e <;> omega) h, Rat.intCast_mul, Rat.intCast_mul]
    have q1 := den_ne hh.1
    have q2 := den_ne hh.2
    unfold qv; grind
  · cases h
theorem products_law {n : Nat} {A B : Rows} (hn : 1 ≤ n) (hn4 : n ≤ 4) (hA : MakeR n n A) (hB : MakeR n n B) :
    ∃ K p q r, mulS n A n B = some K ∧ OkL n n K ∧ detS n A = some p ∧ detS n B = some q ∧ detS n K = some r ∧ mulR p q = some r ∧ detS n (fun j => trR A n j) = some p ∧ vM n A = true ∧ (A 0).length = n ∧
      ∀ i k, i < n → k < n → i ≠ k → ∃ s, detS n (fun x => A (sx i k x)) = some s ∧ addR s p = some z0 := by
  obtain ⟨okA, rA⟩ := make_rep hA
  obtain ⟨okB, rB⟩ := make_rep hB
  obtain ⟨hv, hl0⟩ := vM_mk hn (by omega) hn (by omega) okA
  have g1 : grB 4 4 1 48 48 6 = true := by decide +kernel
  have g2 : grB 4 4 1 9216 9216 36 = true := by decide +kernel
  have p1 : pB 48 6 4 = true := by decide +kernel
  have p2 : pB 9216 36 4 = true := by decide +kernel
  obtain ⟨p, _, ep, okp, hp, _, _, _, hmul⟩ := det_of hn hn4 okA (rA.rep (by decide)) (by decide) (by decide) g1 p1
  obtain ⟨q, _, eq, okq, hq, _⟩ := det_of hn hn4 okB (rB.rep (by decide)) (by decide) (by decide) g1 p1
  obtain ⟨K, eK, okK, hK, UK, hUK⟩ := mul_val hn (by omega) hn (by omega) hn (by omega) okA okB rA rB (by decide) (by decide)
    (Nat.lt_of_le_of_lt (Nat.mul_le_mul_right _ (Nat.mul_le_mul_right _ (by omega : n + 1 ≤ 5))) (by decide +kernel)) (by decide +kernel)
  have rK : Rep n n K 9216 36 := ⟨UK, fun _ => 36, fun i hi => ⟨show (36 : Int) ≠ 0 by decide, show Int.natAbs 36 ≤ 36 by decide, fun j hj => ⟨(hUK i hi j hj).1, by have := (hUK i hi j hj).2; omega⟩⟩⟩
  obtain ⟨r, _, er, okr, hr, _⟩ := det_of hn hn4 okK rK (by decide) (by decide) g2 p2
  have bp := make_det hn4 hA okp hp
  have bq := make_det hn4 hB okq hq
  obtain ⟨r', er', okr', hr'⟩ := mulR_val bp bq (by decide +kernel) (by decide +kernel)
  have hrr : r' = r := qv_inj okr' okr (by rw [hr', hr, det_congr hK, hmul])
  have okT : OkL n n (fun j => trR A n j) := fun j hj => ⟨trR_len _ _ _, fun i hi => by rw [trR_at _ _ hi]; exact (okA i hi).2 j hj⟩
  obtain ⟨UA, hUA⟩ := rA
  have rT : Rep n n (fun j => trR A n j) 48 6 := ⟨fun i j => UA j i, fun _ => 6, fun i hi => ⟨show (6 : Int) ≠ 0 by decide, show Int.natAbs 6 ≤ 6 by decide, fun j hj => by rw [tr_q (m := n) i j hj]; exact hUA j hj i hi⟩⟩
  obtain ⟨t, _, et, okt, hqt, _⟩ := det_of hn hn4 okT rT (by decide) (by decide) g1 p1
  have htp : t = p := qv_inj okt okp (by rw [hqt, hp, ← det_transpose n (Q A)]; exact det_congr fun i hi j hj => tr_q (m := n) i j hj)
  refine ⟨K, p, q, r, eK, okK, ep, eq, er, by rw [er', hrr], by rw [et, htp], hv, hl0, fun i k hi hk hne => ?_⟩
  have okS : OkL n n (fun x => A (sx i k x)) := fun x hx => okA _ (sx_lt hi hk hx)
  have rS : Rep n n (fun x => A (sx i k x)) 48 6 := ⟨fun x j => UA (sx i k x) j, fun _ => 6, fun x hx => ⟨show (6 : Int) ≠ 0 by decide, show Int.natAbs 6 ≤ 6 by decide, fun j hj => hUA _ (sx_lt hi hk hx) j hj⟩⟩
  obtain ⟨s, _, es, oks, hs, _⟩ := det_of hn hn4 okS rS (by decide) (by decide) g1 p1
  have hs2 : qv s = - det n (Q A) := by rw [hs]; exact det_swap (A := Q A) hi hk hne
  have bs := make_det (A := fun x => A (sx i k x)) hn4 (fun x hx => hA _ (sx_lt hi hk hx)) oks hs
  obtain ⟨y, ey, oky, hy⟩ := addR_val bs bp (by decide +kernel) (by decide +kernel)
  refine ⟨s, es, by rw [ey, qv_inj oky okz (by rw [hy, qv_z0, ← hs, hs2]; grind)]⟩
theorem rAt_setR {l : List R} {k : Nat} {q : R} (hk : k < l.length) (j : Nat) : rAt (l.set k q) j = if j = k then q else rAt l j := rAt_set hk
theorem cramer_law {n : Nat} {A : Rows} {b : List R} (hn : 1 ≤ n) (hn4 : n ≤ 4) (hA : MakeR n n A) (hb : b.length = n) (hV : ∀ k, k < n → VecR (rAt b k)) :
    ∃ d, detS n A = some d ∧ okR d = true ∧ ((d = z0 ∧ (solS n A b = none ∨ ∃ x, solS n A b = some (x, false))) ∨ (d ≠ z0 ∧ ∃ x, solS n A b = some (x, true) ∧ x.length = n ∧
      ∀ i, i < n → ∃ c, detS n (fun k => (A k).set i (rAt b k)) = some c ∧ OkL n n (fun k => (A k).set i (rAt b k)) ∧ mulR (rAt x i) d = some c)) := by
  obtain ⟨d, r, ed, okd, hd, er, hrn, hdz, _⟩ := det_law hn hn4 hA
  obtain ⟨okA, rA⟩ := make_rep hA
  obtain ⟨UA, hUA⟩ := rA
  have okb : ∀ i, i < n → okR (rAt b i) = true := fun i hi => (hV i hi).1
  have hdn : ∀ i, i < n → 1 ≤ valZ (rAt b i).2 ∧ valZ (rAt b i).2 ≤ 60 := fun i hi => ⟨by have := okR_pos (okb i hi); omega, (hV i hi).2.2⟩
  have hX : ∀ i, i < n → ∀ j, j < n → Q A i j = ((UA i j * valZ (rAt b i).2 : Int) : Rat) / ((6 * valZ (rAt b i).2 : Int) : Rat) ∧ (UA i j * valZ (rAt b i).2).natAbs ≤ 2880 := fun i hi j hj => by
    obtain ⟨h1, h2⟩ := hUA i hi j hj
    obtain ⟨h3, h4⟩ := hdn i hi
    have q1 := den_ne (okb i hi)
    refine ⟨by rw [h1, Rat.intCast_mul, Rat.intCast_mul]; grind, ?_⟩
    rw [Int.natAbs_mul]
    exact Nat.mul_le_mul h2 (by omega : (valZ (rAt b i).2).natAbs ≤ 60)
  have hY : ∀ i, i < n → qv (rAt b i) = ((valZ (rAt b i).1 * 6 : Int) : Rat) / ((6 * valZ (rAt b i).2 : Int) : Rat) ∧ (valZ (rAt b i).1 * 6).natAbs ≤ 5994 := fun i hi => by
    have q1 := den_ne (okb i hi)
    refine ⟨by rw [Rat.intCast_mul, Rat.intCast_mul]; unfold qv; simp; grind, ?_⟩
    have := (hV i hi).2.1
    omega
  have ht : ∀ i, i < n → 6 * valZ (rAt b i).2 ≠ 0 ∧ (6 * valZ (rAt b i).2).natAbs ≤ 360 := fun i hi => by have := hdn i hi; omega
  obtain ⟨r', hr', hs⟩ := solve_val (V := 1) (D := 360) (N1 := 2880) (N2 := 5994) hn (by omega) hn (by omega) okA hb okb (fun i j => UA i j * valZ (rAt b i).2) (fun i => valZ (rAt b i).1 * 6) (fun i => 6 * valZ (rAt b i).2) 1 ht (by decide) (by decide) hX
    (fun i hi => by rw [Int.mul_one]; exact hY i hi) (Gr.of (by decide +kernel : grB 4 5 1 2880 5994 360 = true) (by decide) (by decide) (by decide) (.inl hn4) (by omega))
  obtain ⟨_, r2, _, _, _, er2, hr2, _⟩ := det_of hn hn4 okA (RepC.rep (t := 6) ⟨UA, hUA⟩ (by decide)) (by decide) (by decide) (by decide +kernel) (by decide +kernel)
  have hrr : r' = r := by
    have e1 : r2 = r := Option.some.inj (er2.symm.trans er)
    rw [← e1]; exact Rk.uniq hr' hr2
  subst hrr
  refine ⟨d, ed, okd, ?_⟩
  by_cases hz : d = z0
  · left
    refine ⟨hz, ?_⟩
    have hlt := hdz.1 hz
    rcases hs with ⟨h1, _⟩ | ⟨x, h1, _⟩
    · exact .inl h1
    · exact .inr ⟨x, by rw [h1, decide_eq_false (by omega)]⟩
  · right
    have hrn2 : r' = n := by
      rcases Nat.lt_or_ge r' n with h | h
      · exact absurd (hdz.2 h) hz
      · omega
    refine ⟨hz, ?_⟩
    rcases hs with ⟨_, _, h3⟩ | ⟨x, h1, h2, h3, h4, h5, _, T, t1, t2, Ux, hUx⟩
    · have := h3.le_n; omega
    refine ⟨x, by rw [h1, decide_eq_true hrn2], h2, fun i hi => ?_⟩
    have hset : ∀ k, k < n → ∀ j, rAt ((A k).set i (rAt b k)) j = if j = i then rAt b k else rAt (A k) j := fun k hk j => rAt_set (by rw [(okA k hk).1]; exact hi)
    have okM : OkL n n (fun k => (A k).set i (rAt b k)) := fun k hk => ⟨by rw [List.length_set]; exact (okA k hk).1, fun j hj => by
      rw [hset k hk]
      split
      · exact okb k hk
      · exact (okA k hk).2 j hj⟩
    have rM : Rep n n (fun k => (A k).set i (rAt b k)) 5994 360 := ⟨fun k j => if j = i then valZ (rAt b k).1 * 6 else UA k j * valZ (rAt b k).2, fun k => 6 * valZ (rAt b k).2, fun k hk => ⟨(ht k hk).1, (ht k hk).2, fun j hj => by
      unfold Q
      rw [hset k hk]
      by_cases e : j = i
      · simp only [if_pos e]; exact hY k hk
      · simp only [if_neg e]; exact ⟨(hX k hk j hj).1, Nat.le_trans (hX k hk j hj).2 (by decide)⟩⟩⟩
    obtain ⟨c, _, ec, okc, hc, _⟩ := det_of hn hn4 okM rM (by decide) (by decide) (by decide +kernel) (by decide +kernel)
    refine ⟨c, ec, okM, ?_⟩
    have bd := make_det hn4 hA okd hd
    obtain ⟨g1, g2⟩ := hUx i hi 0 (by decide)
    rw [lastC_q (by decide), Int.mul_one] at g1
    have hrm : gB 2880 5994 r' * gS 2880 360 r' ≤ gB 2880 5994 4 * gS 2880 360 4 := Nat.mul_le_mul (gB_mono (by decide) (by omega)) (gS_mono (by decide) (by omega))
    have bx := Bq.of (N := gB 2880 5994 4 * gS 2880 360 4) (D := gS 2880 360 4) (h3 i hi) t1 g1 (Nat.le_trans g2 hrm) (Nat.le_trans t2 (gS_mono (by decide) (by omega)))
    obtain ⟨y, ey, oky, hy⟩ := mulR_val bx bd (by decide +kernel) (by decide +kernel)
    rw [ey, qv_inj oky okc]
    rw [hy, ← g1, hc]
    have hcr := cramer (A := Q A) (b := fun k => qv (rAt b k)) (x := fun k => qv (rAt x k)) (fun k hk => h4 k hk) hi
    rw [← hcr]
    exact det_congr fun k hk j hj => by
      unfold uc Q
      rw [hset k hk]
      split <;> rfl
end Go.Proofs.YtepcnphmfbbhiaaGreatDoor
set_option linter.all false
namespace Go.Proofs.YtepcnphmfbbhiaaGreatDoor
open Go Go.Eng Go.RowKit La
theorem uR_atI {i n j : Nat} (h : j < n) : rAt (uR i n) j = if i = j then o1 else z0 := by
  rw [rAt_get (by rw [uR_len]; exact h)]; simp [uR]
theorem uR_q {i n j : Nat} (h : j < n) : qv (rAt (uR i n) j) = one i j := by
  rw [uR_atI h]; unfold one
  split
  · exact qv_o1
  · exact qv_z0
theorem besU_l {n m : Nat} {L : Rows} (ok : OkL n m L) {i j : Nat} (hi : i < n) (hj : j < m) : Q (besU n L) i j = Q L i j := by
  unfold Q besU; rw [rAt_appL (by rw [(ok i hi).1]; exact hj)]
theorem besU_r {n m : Nat} {L : Rows} (ok : OkL n m L) {i j : Nat} (hi : i < n) (hj : j < n) : Q (besU n L) i (m + j) = one i j := by
  unfold Q besU; rw [rAt_appR (by rw [(ok i hi).1]; omega), (ok i hi).1, show m + j - m = j by omega]; exact uR_q hj
theorem rAt_drop {l : List R} {n j : Nat} : rAt (l.drop n) j = rAt l (n + j) := by unfold rAt; simp [List.getD, List.getElem?_drop]
theorem inv_val {n N1 N2 D : Nat} {L : Rows} (hn : 1 ≤ n) (hn8 : n ≤ 8) (ok : OkL n n L) (X : Nat → Nat → Int) (t : Nat → Int) (ht : ∀ i, i < n → t i ≠ 0 ∧ (t i).natAbs ≤ D ∧ (t i).natAbs ≤ N2)
    (hX : ∀ i, i < n → ∀ j, j < n → Q L i j = (X i j : Rat) / (t i : Rat) ∧ (X i j).natAbs ≤ N1) (hg : Gr n (n + n) n 1 (gA N1) (gB N1 N2) (gS N1 D)) :
    ∃ r, Rk n n r (Q L) ∧ ((r < n ∧ invS n L = none) ∨ (r = n ∧ ∃ B, invS n L = some B ∧ OkL n n B ∧ Eq2 n n (La.mul n (Q B) (Q L)) one ∧ Eq2 n n (La.mul n (Q L) (Q B)) one)) := by
  obtain ⟨hv, h0⟩ := vM_mk hn hn8 hn hn8 ok
  have okU : OkL n (n + n) (besU n L) := by have := besU_ok (vM_T hv); rwa [h0] at this
  obtain ⟨s, e, h⟩ := elim_val (w := fun _ => 1) (V := 1) okU hg (fun j _ => ⟨show (1 : Int) ≠ 0 by decide, show Int.natAbs 1 ≤ 1 by decide, fun _ => rfl⟩) (Nat.le_add_right n n) (fun i j => if j < n then X i j else if i = j - n then t i else 0) t (fun i hi => by
    obtain ⟨t1, t2, t3⟩ := ht i hi
    refine ⟨t1, t2, fun j hj => ?_⟩
    by_cases e : j < n
    · simp only [if_pos e, Int.mul_one]
      rw [besU_l ok hi e]
      exact hX i hi j e
    · simp only [if_neg e, Int.mul_one]
      obtain ⟨k, rfl⟩ : ∃ k, j = n + k := ⟨j - n, by omega⟩
      have q1 := rat_ne t1
      rw [besU_r ok hi (by omega), show n + k - n = k by omega]
      unfold one
      by_cases e2 : i = k
      · rw [if_pos e2, if_pos e2]; exact ⟨by grind, t3⟩
      · rw [if_neg e2, if_neg e2]; exact ⟨by simp; grind, by simp⟩)
  have hwide : Eq2 n n (Q (besU n L)) (Q L) := fun i hi j hj => besU_l ok hi hj
  have hS : invS n L = invE n s := by unfold invS; rw [if_pos (sqB_mk hv h0.symm), e]; rfl
  have hrn := h.rf.rn
  refine ⟨s.piv.length, rk_cong (h.rf.rank h.ro (Nat.le_add_right n n)) hwide, ?_⟩
  by_cases hlt : s.piv.length < n
  · left; exact ⟨hlt, by rw [hS]; unfold invE; rw [if_pos hlt]⟩
  · right
    have hfull : RF n n n (fun l => s.cols.getD l 0) (Q s.L) := by have := h.rf; rwa [show s.piv.length = n by omega] at this
    have hB : ∀ i, i < n → ∀ j, j < n → Q s.L i (n + j) = Q (fun i => (s.L i).drop n) i j := fun i _ j _ => by unfold Q; rw [rAt_drop]
    have := RF.inverse h.ro hfull hwide (fun i hi j hj => besU_r ok hi hj) hB
    refine ⟨by omega, fun i => (s.L i).drop n, by rw [hS]; unfold invE; rw [if_neg hlt], fun i hi => ⟨by rw [List.length_drop, (h.ok i hi).1]; omega, fun j hj => by rw [rAt_drop]; exact (h.ok i hi).2 (n + j) (by omega)⟩, this.1, this.2⟩
theorem inv_bd : ∀ n : Fin 5, ∀ i : Fin 5, i.val < n.val → fac n.val * pN (fun j => if j = i.val then 6 else 48) n.val ≤ 16000000 := by decide +kernel
theorem inv_rep {n : Nat} {A B : Rows} (hn4 : n ≤ 4) (hA : MakeR n n A) (h : Eq2 n n (La.mul n (Q A) (Q B)) one) (h' : Eq2 n n (La.mul n (Q B) (Q A)) one) (hd : det n (Q A) ≠ 0) : ∃ z : Int, z ≠ 0 ∧ z.natAbs ≤ 130000000 ∧ RepC n n B 16000000 z := by
  obtain ⟨_, U, hU⟩ := make_rep hA
  obtain ⟨z, h1, h2⟩ := det_frac (N := fun _ => 48) (by decide : (6 : Int) ≠ 0) hU
  have hz : z ≠ 0 := fun e => hd (by rw [h1, e]; simp; grind)
  have qp := rat_ne (ipow_ne (by decide : (6 : Int) ≠ 0) n)
  have qz := rat_ne hz
  refine ⟨z, hz, ?_, RepC.mk fun i hi j hj => ?_⟩
  · rw [pN_const] at h2
    refine Nat.le_trans h2 ?_
    have : n = 0 ∨ n = 1 ∨ n = 2 ∨ n = 3 ∨ n = 4 := by omega
    rcases this with rfl | rfl | rfl | rfl | rfl <;> decide
  · obtain ⟨y, y1, y2⟩ := det_frac (A := uc (Q A) i (fun k => one k j)) (U := fun k c => if c = i then (if k = j then 6 else 0) else U k c) (N := fun c => if c = i then 6 else 48) (by decide : (6 : Int) ≠ 0) (fun k hk c hc => by
      unfold uc
      by_cases e : c = i
      · simp only [if_pos e]
        unfold one
        by_cases e2 : k = j
        · rw [if_pos e2, if_pos e2]; exact ⟨by simp; grind, by decide⟩
        · rw [if_neg e2, if_neg e2]; exact ⟨by simp; grind, by decide⟩
      · simp only [if_neg e]; exact hU k hk c hc)
    have hcr := cramer (A := Q A) (b := fun k => one k j) (x := fun k => Q B k j) (fun k hk => (h k hk j hj).symm) hi
    refine ⟨y, ?_, Nat.le_trans y2 (inv_bd ⟨n, by omega⟩ ⟨i, by omega⟩ hi)⟩
    rw [y1, h1] at hcr
    have : Q B i j * (z : Rat) = (y : Rat) := by
      have h3 : (y : Rat) = Q B i j * ((z : Rat) / (((6 : Int) ^ n : Int) : Rat)) * (((6 : Int) ^ n : Int) : Rat) := by rw [← hcr]; grind
      rw [h3]; grind
    rw [← this]; grind
theorem sameM_of {n m : Nat} {K K' : Rows} (ok : OkL n m K) (ok' : OkL n m K') (h : Eq2 n m (Q K) (Q K')) : SameM n K n K' := ⟨rfl, fun i hi => list_ext (ok i hi).1 (ok' i hi).1 fun j hj => qv_inj ((ok i hi).2 j hj) ((ok' i hi).2 j hj) (h i hi j hj)⟩
theorem uL_ok (n : Nat) : OkL n n (fun i => uR i n) := fun i _ => ⟨uR_len i n, fun j hj => uR_ok hj⟩
theorem inverse_law {n : Nat} {A : Rows} (hn : 1 ≤ n) (hn4 : n ≤ 4) (hA : MakeR n n A) :
    ∃ r, rankS n A = some r ∧ ((r < n ∧ invS n A = none) ∨ (r = n ∧ ∃ B K1 K2 C, invS n A = some B ∧ OkL n n B ∧ mulS n B n A = some K1 ∧ OkL n n K1 ∧ SameM n K1 n (fun i => uR i n) ∧ mulS n A n B = some K2 ∧ OkL n n K2 ∧ SameM n K2 n (fun i => uR i n) ∧ invS n B = some C ∧ OkL n n C ∧ SameM n C n A)) := by
  obtain ⟨okA, rA⟩ := make_rep hA
  obtain ⟨d, r, ed, okd, hd, er, hrn, hdz, _⟩ := det_law hn hn4 hA
  obtain ⟨_, r2, _, _, _, er2, hr2, hd0, _⟩ := det_of hn hn4 okA (rA.rep (by decide)) (by decide) (by decide) (by decide +kernel) (by decide +kernel)
  have e1 : r2 = r := Option.some.inj (er2.symm.trans er)
  subst e1
  obtain ⟨UA, hUA⟩ := rA
  obtain ⟨r', hr', hs⟩ := inv_val (N1 := 48) (N2 := 6) (D := 6) hn (by omega) okA UA (fun _ => 6) (fun i _ => by decide) hUA (Gr.of (by decide +kernel : grB 4 8 1 48 6 6 = true) (by decide) (by decide) (by decide) (.inl hn4) (by omega))
  have hrr : r' = r2 := Rk.uniq hr' hr2
  subst hrr
  refine ⟨r', er, ?_⟩
  rcases hs with ⟨h1, h2⟩ | ⟨h1, B, h2, okB, hBA, hAB⟩
  · exact .inl ⟨h1, h2⟩
  · right
    have hdne : det n (Q A) ≠ 0 := fun e => by have := hd0.1 e; omega
    obtain ⟨z, z0', z1, rB⟩ := inv_rep hn4 hA hAB hBA hdne
    have n5 : n + 1 ≤ 5 := by omega
    obtain ⟨K1, k1, okK1, hK1, _⟩ := mul_val hn (by omega) hn (by omega) hn (by omega) okB okA rB ⟨UA, hUA⟩ z0' (by decide)
      (Nat.lt_of_le_of_lt (Nat.mul_le_mul (Nat.mul_le_mul_right _ n5) (Nat.mul_le_mul_right _ z1)) (by decide +kernel)) (Nat.lt_of_le_of_lt (Nat.mul_le_mul (Nat.mul_le_mul_right _ z1) (Nat.mul_le_mul_right _ z1)) (by decide +kernel))
    obtain ⟨K2, k2, okK2, hK2, _⟩ := mul_val hn (by omega) hn (by omega) hn (by omega) okA okB ⟨UA, hUA⟩ rB (by decide) z0'
      (Nat.lt_of_le_of_lt (Nat.mul_le_mul (Nat.mul_le_mul_right _ n5) (Nat.mul_le_mul_left _ z1)) (by decide +kernel)) (Nat.lt_of_le_of_lt (Nat.mul_le_mul (Nat.mul_le_mul_left _ z1) (Nat.mul_le_mul_left _ z1)) (by decide +kernel))
    have hu : ∀ i, i < n → ∀ j, j < n → Q (fun i => uR i n) i j = one i j := fun i _ j hj => uR_q hj
    obtain ⟨UB, hUB⟩ := rB
    obtain ⟨r3, hr3, hs3⟩ := inv_val (N1 := 16000000) (N2 := 130000000) (D := 130000000) hn (by omega) okB UB (fun _ => z) (fun i _ => ⟨z0', z1, z1⟩) hUB (Gr.of (by decide +kernel : grB 4 8 1 16000000 130000000 130000000 = true) (by decide) (by decide) (by decide) (.inl hn4) (by omega))
    have hr3n : r3 = n := by
      have h5 : Rk n n n (Q B) := ⟨Q B, one, Q A, one, ⟨fun i hi j hj => (mul_one hj).symm, hAB, fun i hi j hj => mul_one hj⟩⟩
      exact Rk.uniq hr3 h5
    rcases hs3 with ⟨h3, _⟩ | ⟨_, C, h4, okC, hCB, hBC⟩
    · omega
    · have hCA : Eq2 n n (Q C) (Q A) := inv_uniq hCB hAB hBA
      exact ⟨h1, B, K1, K2, C, h2, okB, k1, okK1, sameM_of okK1 (uL_ok n) (fun i hi j hj => by rw [hK1 i hi j hj, hBA i hi j hj, hu i hi j hj]), k2, okK2, sameM_of okK2 (uL_ok n) (fun i hi j hj => by rw [hK2 i hi j hj, hAB i hi j hj, hu i hi j hj]), h4, okC, sameM_of okC okA hCA⟩
end Go.Proofs.YtepcnphmfbbhiaaGreatDoor
set_option linter.all false
namespace Go.Proofs.YtepcnphmfbbhiaaGreatDoor
open Go Go.Eng Go.RowKit
section
variable {f : FuncId} {a : Array Value} {w : World} {lo n m : Nat}
theorem cEq {X Y : Value} (h : Calls Tryz.prog f a w (Ret w fun v _ => v = X)) (e : X = Y) : Calls Tryz.prog f a w (Ret w fun v _ => v = Y) := e ▸ h
theorem cOutM {o o' : Option Rows} (h : Calls Tryz.prog f a w (Ret w fun v w' => OutM lo w' n o v)) (e : o = o') : Calls Tryz.prog f a w (Ret w fun v w' => OutM lo w' n o' v) := e ▸ h
theorem cOutV {o o' : Option (List R × Bool)} (h : Calls Tryz.prog f a w (Ret w fun v w' => OutV lo w' o v)) (e : o = o') : Calls Tryz.prog f a w (Ret w fun v w' => OutV lo w' o' v) := e ▸ h
theorem cMat {L : Rows} (h : Calls Tryz.prog f a w (Ret w fun v w' => MatR lo w' v n L)) (e : n = m) : Calls Tryz.prog f a w (Ret w fun v w' => MatR lo w' v m L) := e ▸ h
end
end Go.Proofs.YtepcnphmfbbhiaaGreatDoor
