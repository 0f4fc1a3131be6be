/- Part of the proof that all functions of the layer agree with the reference implementation. -/
import Derived.Test.YtepcnphmfbbhiaaGreatDoorLaEToLaF
import Derived.Test.YtepcnphmfbbhiaaGreatDoorLinYToLinR
import Derived.Test.YtepcnphmfbbhiaaGreatDoorLin20
import Derived.Test.YtepcnphmfbbhiaaGreatDoorLin17ToLin18
import Derived.Test.YtepcnphmfbbhiaaGreatDoorLa1ToLa6
import Derived.Test.YtepcnphmfbbhiaaGreatDoorLin22
set_option linter.all false
set_option linter.all false
namespace Go.Proofs.YtepcnphmfbbhiaaGreatDoor
open Go Go.Eng Go.RowKit La
def gA (a0 : Nat) : Nat → Nat
  | 0 => a0
  | r + 1 => 2 * (gA a0 r * gA a0 r)
def gB (a0 b0 : Nat) : Nat → Nat
  | 0 => b0
  | r + 1 => 2 * (gA a0 r * gB a0 b0 r)
def gS (a0 s0 : Nat) : Nat → Nat
  | 0 => s0
  | r + 1 => gS a0 s0 r * gA a0 r
def grB (R M V a0 b0 s0 : Nat) : Bool := (List.range R).all fun r =>
  Nat.blt (2 * (gA a0 r * gS a0 s0 r)) T200 && Nat.blt (gS a0 s0 r * gS a0 s0 r) T200 &&
  (Nat.ble M (r + 1) || (Nat.blt (2 * (gA a0 r * ((gA a0 r + gB a0 b0 r) * (gS a0 s0 r * V)))) T200 && Nat.blt (gS a0 s0 r * V * (gS a0 s0 r * V * gA a0 r)) T200))
theorem Gr.of {R M V a0 b0 s0 n m cols : Nat} (h : grB R M V a0 b0 s0 = true) (hV : 1 ≤ V) (ha : 1 ≤ a0) (hs : 1 ≤ s0) (hR : n ≤ R ∨ cols ≤ R) (hM : m ≤ M) : Gr n m cols V (gA a0) (gB a0 b0) (gS a0 s0) := by
  have key : ∀ r, r < n → r < cols → r < R := fun r h1 h2 => by omega
  have h1 : ∀ r, r < R → _ := fun r hr => List.all_eq_true.1 h r (List.mem_range.2 hr)
  simp only [Bool.and_eq_true, Bool.or_eq_true, Nat.blt_eq, Nat.ble_eq] at h1
  exact ⟨hV, ha, hs, fun _ _ _ => Nat.le_refl _, fun _ _ _ => Nat.le_refl _, fun _ _ _ => Nat.le_refl _, fun r h2 h3 => (h1 r (key r h2 h3)).1, fun r h2 h3 h4 => by
    rcases (h1 r (key r h2 h3)).2 with h5 | h5
    · omega
    · exact h5⟩
def Rep (n m : Nat) (L : Rows) (N D : Nat) : Prop := ∃ (U : Nat → Nat → Int) (t : Nat → Int), ∀ i, i < n → t i ≠ 0 ∧ (t i).natAbs ≤ D ∧ ∀ j, j < m → Q L i j = (U i j : Rat) / (t i : Rat) ∧ (U i j).natAbs ≤ N
def RepC (n m : Nat) (L : Rows) (N : Nat) (t : Int) : Prop := ∃ U : Nat → Nat → Int, ∀ i, i < n → ∀ j, j < m → Q L i j = (U i j : Rat) / (t : Rat) ∧ (U i j).natAbs ≤ N
theorem RepC.mk {n m N : Nat} {L : Rows} {t : Int} (h : ∀ i, i < n → ∀ j, j < m → ∃ V : Int, Q L i j = (V : Rat) / (t : Rat) ∧ V.natAbs ≤ N) : RepC n m L N t := by
  refine ⟨fun i j => if h2 : i < n ∧ j < m then (h i h2.1 j h2.2).choose else 0, fun i hi j hj => ?_⟩
  have hs := (h i hi j hj).choose_spec
  simp only [hi, hj, and_self, dite_true]
  exact hs
theorem RepC.rep {n m N : Nat} {L : Rows} {t : Int} (h : RepC n m L N t) (ht : t ≠ 0) : Rep n m L N t.natAbs := by
  obtain ⟨U, h⟩ := h
  exact ⟨U, fun _ => t, fun i hi => ⟨ht, Nat.le_refl _, fun j hj => h i hi j hj⟩⟩
theorem vM_mk {n m : Nat} {L : Rows} (hn : 1 ≤ n) (hn8 : n ≤ 8) (hm : 1 ≤ m) (hm8 : m ≤ 8) (ok : OkL n m L) : vM n L = true ∧ (L 0).length = m := by
  have h0 := (ok 0 hn).1
  refine ⟨decide_eq_true ⟨hn, hn8, by omega, by omega, fun i hi => ⟨by rw [h0]; exact (ok i hi).1, all_rAt.2 fun k hk => (ok i hi).2 k (by rw [(ok i hi).1] at hk; exact hk)⟩⟩, h0⟩
theorem rank_val {n m N D : Nat} {L : Rows} (hn : 1 ≤ n) (hn8 : n ≤ 8) (hm : 1 ≤ m) (hm8 : m ≤ 8) (ok : OkL n m L) (hr : Rep n m L N D) (hg : Gr n m m 1 (gA N) (gB N N) (gS N D)) : ∃ r, rankS n L = some r ∧ Rk n m r (Q L) := by
  obtain ⟨hv, h0⟩ := vM_mk hn hn8 hm hm8 ok
  obtain ⟨U, t, hU⟩ := hr
  obtain ⟨s, e, h⟩ := elim_val (w := fun _ => 1) ok hg (fun j _ => ⟨show (1 : Int) ≠ 0 by decide, show Int.natAbs 1 ≤ 1 by decide, fun _ => rfl⟩) (Nat.le_refl m) U t (fun i hi => ⟨(hU i hi).1, (hU i hi).2.1, fun j hj => ⟨by rw [Int.mul_one]; exact ((hU i hi).2.2 j hj).1, by rw [if_pos hj]; exact ((hU i hi).2.2 j hj).2⟩⟩)
  refine ⟨s.piv.length, by unfold rankS; rw [if_pos hv, h0, e]; rfl, h.rf.rank h.ro (Nat.le_refl m)⟩
theorem dot_val {a : List R} {B : Rows} {j k0 : Nat} {X Y : Nat → Int} {t u : Int} {N1 N2 : Nat} (ht : t ≠ 0) (hu : u ≠ 0)
    (hX : ∀ k, k < k0 → okR (rAt a k) = true ∧ qv (rAt a k) = (X k : Rat) / (t : Rat) ∧ (X k).natAbs ≤ N1)
    (hY : ∀ k, k < k0 → okR (rAt (B k) j) = true ∧ qv (rAt (B k) j) = (Y k : Rat) / (u : Rat) ∧ (Y k).natAbs ≤ N2)
    (h1 : (k0 + 1) * (N1 * N2) * (t.natAbs * u.natAbs) < T200) (h2 : (t.natAbs * u.natAbs) * (t.natAbs * u.natAbs) < T200) :
    ∀ (f k : Nat) (s : R) (V : Int), k + f = k0 → okR s = true → qv s = (V : Rat) / ((t * u : Int) : Rat) → V.natAbs ≤ k * (N1 * N2) →
      ∃ (d : R) (V' : Int), dotL a B j f k s = some d ∧ okR d = true ∧ qv d = (V' : Rat) / ((t * u : Int) : Rat) ∧ V'.natAbs ≤ k0 * (N1 * N2) ∧ qv d = qv s + sm f (fun l => qv (rAt a (k + l)) * qv (rAt (B (k + l)) j))
  | 0, k, s, V, hk, hs, hq, hV => ⟨s, V, rfl, hs, hq, by rw [show k0 = k by omega]; exact hV, by simp only [sm]; grind⟩
  | f + 1, k, s, V, hk, hs, hq, hV => by
    obtain ⟨x1, x2, x3⟩ := hX k (by omega)
    obtain ⟨y1, y2, y3⟩ := hY k (by omega)
    have hp1 : 1 ≤ t.natAbs * u.natAbs := Nat.mul_pos (by omega) (by omega)
    have htu : t * u ≠ 0 := fun e => by rcases Int.mul_eq_zero.1 e with e | e <;> contradiction
    have b1 : N1 * N2 * (t.natAbs * u.natAbs) < T200 := Nat.lt_of_le_of_lt (Nat.mul_le_mul_right _ (Nat.le_mul_of_pos_left _ (by omega))) h1
    have bx := Bq.of (N := N1) (D := t.natAbs) x1 ht x2 x3 (Nat.le_refl _)
    have by_ := Bq.of (N := N2) (D := u.natAbs) y1 hu y2 y3 (Nat.le_refl _)
    obtain ⟨p, p1, p2, p3⟩ := mulR_val bx by_ (Nat.lt_of_le_of_lt (Nat.le_mul_of_pos_right _ hp1) b1) (Nat.lt_of_le_of_lt (Nat.le_mul_of_pos_left _ hp1) h2)
    have q1 := rat_ne ht
    have q2 := rat_ne hu
    have hpq : qv p = ((X k * Y k : Int) : Rat) / ((t * u : Int) : Rat) := by rw [p3, Rat.intCast_mul, Rat.intCast_mul]; grind
    have hXY : (X k * Y k).natAbs ≤ N1 * N2 := by rw [Int.natAbs_mul]; exact Nat.mul_le_mul x3 y3
    have bs := Bq.of (N := k0 * (N1 * N2)) (D := t.natAbs * u.natAbs) hs htu hq (Nat.le_trans hV (Nat.mul_le_mul_right _ (by omega))) (by rw [Int.natAbs_mul]; exact Nat.le_refl _)
    have bp := Bq.of (N := N1 * N2) (D := t.natAbs * u.natAbs) p2 htu hpq hXY (by rw [Int.natAbs_mul]; exact Nat.le_refl _)
    obtain ⟨s', s1, s2, s3⟩ := addR_val bs bp (by rw [← Nat.add_mul, show k0 * (N1 * N2) + N1 * N2 = (k0 + 1) * (N1 * N2) by rw [Nat.add_mul, Nat.one_mul]]; exact h1) h2
    have q3 := rat_ne htu
    have hs' : qv s' = ((V + X k * Y k : Int) : Rat) / ((t * u : Int) : Rat) := by rw [s3, Rat.intCast_add]; grind
    obtain ⟨d, V', e, d1, d2, d3, d4⟩ := dot_val ht hu hX hY h1 h2 f (k + 1) s' (V + X k * Y k) (by omega) s2 hs' (by rw [Nat.add_mul, Nat.one_mul]; omega)
    refine ⟨d, V', by rw [dotL, p1]; show (match addR s p with | none => none | some s' => _) = _; rw [s1]; exact e, d1, d2, d3, ?_⟩
    rw [d4, sm_first, s3, ← hq, ← hpq, p3, ← x2, ← y2]
    rw [sm_congr (g := fun l => qv (rAt a (k + (l + 1))) * qv (rAt (B (k + (l + 1))) j)) (fun l _ => by rw [show k + 1 + l = k + (l + 1) by omega])]
    show _ + _ + _ = _ + (qv (rAt a (k + 0)) * qv (rAt (B (k + 0)) j) + _)
    grind
theorem row_val {a : List R} {B : Rows} {p k0 : Nat} (ha : a.length = k0) (P : Nat → R → Prop) (hd : ∀ j, j < p → ∃ d, dotL a B j k0 0 z0 = some d ∧ P j d) :
    ∀ (f j : Nat) (l : List R), j + f = p → l.length = j → (∀ i, i < j → P i (rAt l i)) → ∃ l', rowL a B f j l = some l' ∧ l'.length = p ∧ ∀ i, i < p → P i (rAt l' i)
  | 0, j, l, hj, hl, h => ⟨l, rfl, by omega, fun i hi => h i (by omega)⟩
  | f + 1, j, l, hj, hl, h => by
    obtain ⟨d, d1, d2⟩ := hd j (by omega)
    obtain ⟨l', e, h1, h2⟩ := row_val ha P hd f (j + 1) (l ++ [d]) (by omega) (by simp [hl]) (fun i hi => by
      by_cases e : i < j
      · rw [rAt_appL (by omega)]; exact h i e
      · rw [rAt_appR (by omega), show i = j by omega, hl, Nat.sub_self]; exact d2)
    exact ⟨l', by rw [rowL, ha, d1]; exact e, h1, h2⟩
theorem mat_val {L B : Rows} {n p : Nat} (P : Nat → List R → Prop) (hd : ∀ i, i < n → ∃ l, rowL (L i) B p 0 [] = some l ∧ P i l) :
    ∀ (f i : Nat) (K : Rows), i + f = n → (∀ k, k < i → P k (K k)) → ∃ K', matL L B p f i K = some K' ∧ ∀ k, k < n → P k (K' k)
  | 0, i, K, hi, h => ⟨K, rfl, fun k hk => h k (by omega)⟩
  | f + 1, i, K, hi, h => by
    obtain ⟨l, l1, l2⟩ := hd i (by omega)
    obtain ⟨K', e, h1⟩ := mat_val P hd f (i + 1) (updF K i l) (by omega) (fun k hk => by
      by_cases e : k = i
      · subst e; rw [updF_eq]; exact l2
      · rw [updF_ne _ _ e]; exact h k (by omega))
    exact ⟨K', by rw [matL, l1]; exact e, h1⟩
theorem mul_val {n k m N1 N2 : Nat} {L B : Rows} {t u : Int} (hn : 1 ≤ n) (hn8 : n ≤ 8) (hk : 1 ≤ k) (hk8 : k ≤ 8) (hm : 1 ≤ m) (hm8 : m ≤ 8) (okA : OkL n k L) (okB : OkL k m B) (hA : RepC n k L N1 t) (hB : RepC k m B N2 u) (ht : t ≠ 0) (hu : u ≠ 0)
    (h1 : (k + 1) * (N1 * N2) * (t.natAbs * u.natAbs) < T200) (h2 : (t.natAbs * u.natAbs) * (t.natAbs * u.natAbs) < T200) :
    ∃ K, mulS n L k B = some K ∧ OkL n m K ∧ Eq2 n m (Q K) (La.mul k (Q L) (Q B)) ∧ RepC n m K (k * (N1 * N2)) (t * u) := by
  obtain ⟨v1, l1⟩ := vM_mk hn hn8 hk hk8 okA
  obtain ⟨v2, l2⟩ := vM_mk hk hk8 hm hm8 okB
  obtain ⟨X, hX⟩ := hA
  obtain ⟨Y, hY⟩ := hB
  obtain ⟨K, e, hK⟩ := mat_val (L := L) (B := B) (n := n) (p := m) (fun i l => l.length = m ∧ ∀ j, j < m → okR (rAt l j) = true ∧ qv (rAt l j) = La.mul k (Q L) (Q B) i j ∧ ∃ V : Int, qv (rAt l j) = (V : Rat) / ((t * u : Int) : Rat) ∧ V.natAbs ≤ k * (N1 * N2)) (fun i hi => by
    obtain ⟨l, e, h3, h4⟩ := row_val (a := L i) (B := B) (p := m) (okA i hi).1 (fun j d => okR d = true ∧ qv d = La.mul k (Q L) (Q B) i j ∧ ∃ V : Int, qv d = (V : Rat) / ((t * u : Int) : Rat) ∧ V.natAbs ≤ k * (N1 * N2)) (fun j hj => by
      obtain ⟨d, V, e, d1, d2, d3, d4⟩ := dot_val (a := L i) (B := B) (j := j) (k0 := k) (X := X i) (Y := fun l => Y l j) ht hu (fun l hl => ⟨(okA i hi).2 l hl, hX i hi l hl⟩) (fun l hl => ⟨(okB l hl).2 j hj, hY l hl j hj⟩) h1 h2 k 0 z0 0 (by omega) okz (by rw [qv_z0]; simp; grind) (by simp)
      refine ⟨d, e, d1, ?_, V, d2, d3⟩
      rw [d4, qv_z0]
      show 0 + _ = sm k _
      rw [sm_congr (g := fun l => Q L i l * Q B l j) (fun l _ => by rw [Nat.zero_add]; rfl)]; grind) m 0 [] (by omega) rfl (fun i hi => by omega)
    exact ⟨l, e, h3, h4⟩) n 0 nilR (by omega) (fun k hk => by omega)
  refine ⟨K, by unfold mulS mulM; rw [if_pos ⟨v1, v2, l1⟩, l2]; exact e, fun i hi => ⟨(hK i hi).1, fun j hj => ((hK i hi).2 j hj).1⟩, fun i hi j hj => ((hK i hi).2 j hj).2.1, ?_⟩
  exact RepC.mk fun i hi j hj => ((hK i hi).2 j hj).2.2
theorem make_rep {n m : Nat} {L : Rows} (h : MakeR n m L) : OkL n m L ∧ RepC n m L 48 6 := by
  refine ⟨fun i hi => ⟨(h i hi).1, fun j hj => ((h i hi).2 j hj).1⟩, fun i j => valZ (rAt (L i) j).1 * (6 / valZ (rAt (L i) j).2), fun i hi j hj => ?_⟩
  obtain ⟨h1, ⟨h2, h3⟩, h4⟩ := (h i hi).2 j hj
  have h5 := okR_pos h1
  show (valZ (rAt (L i) j).1 : Rat) / (valZ (rAt (L i) j).2 : Rat) = ((valZ (rAt (L i) j).1 * (6 / valZ (rAt (L i) j).2) : Int) : Rat) / ((6 : Int) : Rat) ∧ (valZ (rAt (L i) j).1 * (6 / valZ (rAt (L i) j).2)).natAbs ≤ 48
  generalize valZ (rAt (L i) j).1 = a at *
  generalize valZ (rAt (L i) j).2 = b at *
  have : b = 1 ∨ b = 2 ∨ b = 3 := by omega
  rcases this with rfl | rfl | rfl
  · refine ⟨?_, by omega⟩
    rw [Rat.intCast_mul]; simp; grind
  · refine ⟨?_, by omega⟩
    rw [Rat.intCast_mul]; simp; grind
  · refine ⟨?_, by omega⟩
    rw [Rat.intCast_mul]; simp; grind
theorem tr_q {n m : Nat} {L : Rows} (i j : Nat) (hj : j < n) : Q (fun j => trR L n j) i j = tr (Q L) i j := by
  unfold Q tr; dsimp only; rw [trR_at _ _ hj]
end Go.Proofs.YtepcnphmfbbhiaaGreatDoor
set_option linter.all false
namespace Go.Proofs.YtepcnphmfbbhiaaGreatDoor
open Go Go.Eng Go.RowKit La
theorem rk_cong {n m r : Nat} {A B : Mx} (h : Rk n m r A) (e : Eq2 n m A B) : Rk n m r B := by
  obtain ⟨C, F, CL, FR, h⟩ := h
  exact ⟨C, F, CL, FR, ⟨fun i hi j hj => by rw [← e i hi j hj]; exact h.eq i hi j hj, h.cl, h.fr⟩⟩
end Go.Proofs.YtepcnphmfbbhiaaGreatDoor
set_option linter.all false
namespace Go.Proofs.YtepcnphmfbbhiaaGreatDoor
open Go Go.Eng Go.RowKit La
theorem vec_rep {q : R} (h : VecR q) {T : Int} (hT : valZ q.2 ∣ T) (h0 : T ≠ 0) : qv q = ((valZ q.1 * (T / valZ q.2) : Int) : Rat) / (T : Rat) ∧ (valZ q.1 * (T / valZ q.2)).natAbs ≤ 999 * T.natAbs := by
  obtain ⟨h1, h2, h3⟩ := h
  have h4 := okR_pos h1
  obtain ⟨c, hc⟩ := hT
  have e : T / valZ q.2 = c := by rw [hc]; exact Int.mul_ediv_cancel_left _ (by omega)
  have hc0 : c ≠ 0 := fun e => h0 (by rw [hc, e]; simp)
  have q1 := den_ne h1
  have q2 := rat_ne hc0
  rw [e]
  constructor
  · rw [hc, Rat.intCast_mul, Rat.intCast_mul]; unfold qv; grind
  · rw [Int.natAbs_mul, hc, Int.natAbs_mul]
    exact Nat.mul_le_mul (by omega) (Nat.le_mul_of_pos_left _ (by omega))
theorem common {l : List R} : ∀ m, (∀ k, k < m → VecR (rAt l k)) → ∃ T : Int, T ≠ 0 ∧ T.natAbs ≤ 60 ^ m ∧ ∀ k, k < m → valZ (rAt l k).2 ∣ T
  | 0, _ => ⟨1, by decide, by decide, fun _ h => absurd h (by omega)⟩
  | m + 1, h => by
    obtain ⟨T, h1, h2, h3⟩ := common m (fun k hk => h k (by omega))
    obtain ⟨g1, g2, g3⟩ := h m (by omega)
    have g4 := okR_pos g1
    refine ⟨T * valZ (rAt l m).2, fun e => by rcases Int.mul_eq_zero.1 e with e | e <;> omega, by rw [Int.natAbs_mul, Nat.pow_succ]; exact Nat.mul_le_mul h2 (by omega), fun k hk => ?_⟩
    by_cases e : k = m
    · subst e; exact ⟨T, by rw [Int.mul_comm]⟩
    · obtain ⟨c, hc⟩ := h3 k (by omega)
      exact ⟨c * valZ (rAt l m).2, by rw [hc, Int.mul_assoc]⟩
theorem lastC_ok {m : Nat} {l : List R} (h : ∀ k, k < m → okR (rAt l k) = true) : OkL m 1 (lastC l) := fun i hi => ⟨rfl, fun k hk => by rw [show k = 0 by omega]; exact h i hi⟩
theorem lastC_q {l : List R} {i j : Nat} (hj : j < 1) : Q (lastC l) i j = qv (rAt l i) := by rw [show j = 0 by omega]; rfl
end Go.Proofs.YtepcnphmfbbhiaaGreatDoor
set_option linter.all false
namespace Go.Proofs.YtepcnphmfbbhiaaGreatDoor
open Go Go.Eng Go.RowKit La
theorem both_eq {n d : Int} {q : R} (hd : d ≠ 0) (h : bothF n d = some q) : qv q = (n : Rat) / (d : Rat) := by
  obtain ⟨h1, h2⟩ := both_fits h
  unfold bothF at h
  rw [h1, h2, Bool.and_self, if_pos rfl] at h
  exact make_val hd h
theorem mulR_bq {a b : R} {x y : Rat} {N D N' D' : Nat} (ha : Bq a x N D) (hb : Bq b y N' D') (h1 : N * N' < T200) (h2 : D * D' < T200) : ∃ q, mulR a b = some q ∧ Bq q (x * y) (N * N') (D * D') := by
  obtain ⟨q, e, ok, hv⟩ := mulR_val ha hb h1 h2
  have p1 := okR_pos ha.ok
  have p2 := okR_pos hb.ok
  have q1 := den_ne ha.ok
  have q2 := den_ne hb.ok
  have hq : qv q = ((valZ a.1 * valZ b.1 : Int) : Rat) / ((valZ a.2 * valZ b.2 : Int) : Rat) := by
    rw [hv, ← ha.eq, ← hb.eq, Rat.intCast_mul, Rat.intCast_mul]; unfold qv; grind
  have := Bq.of (N := N * N') (D := D * D') ok (fun e => by rcases Int.mul_eq_zero.1 e with e | e <;> omega) hq (by rw [Int.natAbs_mul]; exact Nat.mul_le_mul ha.num hb.num) (by rw [Int.natAbs_mul]; exact Nat.mul_le_mul ha.den hb.den)
  exact ⟨q, e, ok, hv, this.num, this.den⟩
def pA (a : Nat → Nat) : Nat → Nat
  | 0 => 1
  | r + 1 => pA a r * a r
theorem prod_val {l : List R} {a S : Nat → Nat} (hp : ∀ k, k < l.length → Bq (l.getD k z0) (qv (l.getD k z0)) (a k) (S k)) (hA : ∀ k, k ≤ l.length → pA a k < T200) (hS : ∀ k, k ≤ l.length → pA S k < T200) :
    ∀ (f i : Nat) (d : R) (x : Rat), i + f = l.length → Bq d x (pA a i) (pA S i) → ∃ p, prodF l f i d = some p ∧ Bq p (x * prd (l.drop i)) (pA a l.length) (pA S l.length)
  | 0, i, d, x, h, hb => ⟨d, rfl, by rw [show i = l.length by omega] at hb ⊢; rw [List.drop_length]; simpa [prd] using hb⟩
  | f + 1, i, d, x, h, hb => by
    have hi : i < l.length := by omega
    have hb2 := hp i hi
    have hr : rAt l i = l.getD i z0 := by rw [rAt_get hi]; simp [List.getD, hi]
    obtain ⟨q, e, hq⟩ := mulR_bq hb hb2 (hA (i + 1) (by omega)) (hS (i + 1) (by omega))
    obtain ⟨p, e2, hp2⟩ := prod_val hp hA hS f (i + 1) q _ (by omega) hq
    refine ⟨p, by rw [prodF, hr, e]; exact e2, ?_⟩
    rw [show l.drop i = l.getD i z0 :: l.drop (i + 1) by rw [List.drop_eq_getElem_cons hi]; simp [List.getD, hi], prd, ← Rat.mul_assoc]
    exact hp2
theorem sub_eq {a b q : R} (h : subR a b = some q) : qv q = qv a - qv b := by
  unfold subR at h
  split at h
  · rename_i hh
    simp only [Bool.and_eq_true] at hh
    split at h
    · have p1 := okR_pos hh.1
      have p2 := okR_pos hh.2
      rw [both_eq (fun e => by rcases Int.mul_eq_zero.1 e with e | e <;> omega) h, Rat.intCast_mul, Rat.intCast_sub, Rat.intCast_mul, Rat.intCast_mul]
      have q1 := den_ne hh.1
      have q2 := den_ne hh.2
      unfold qv; grind
    · cases h
  · cases h
theorem negR_q {d : R} (h : okR d = true) : okR (negR d) = true ∧ qv (negR d) = - qv d := by
  refine ⟨okR_neg h, ?_⟩
  rw [sub_eq (negR_some h), qv_z0]; grind
theorem det_end {n : Nat} {L : Rows} {a b S : Nat → Nat} {s : El} (hn : 1 ≤ n) (hn8 : n ≤ 8) (ok : OkL n n L) (e : elim n n n L = some s) (h : EI n n n n (fun _ => 1) (Q L) a b S s) (hA : ∀ k, k ≤ n → pA a k < T200) (hS : ∀ k, k ≤ n → pA S k < T200) :
    ∃ d r, detS n L = some d ∧ okR d = true ∧ qv d = det n (Q L) ∧ rankS n L = some r ∧ Rk n n r (Q L) ∧ (det n (Q L) = 0 ↔ r < n) ∧ ∀ X, det n (La.mul n (Q L) X) = det n (Q L) * det n X := by
  obtain ⟨hv, h0⟩ := vM_mk hn hn8 hn hn8 ok
  have hdi := h.rf.det_iff h.ro (Nat.le_refl n)
  have hrn := h.rf.rn
  have hrank : rankS n L = some s.piv.length := by unfold rankS; rw [if_pos hv, h0, e]; rfl
  have hdet : detS n L = detE n s := by unfold detS; rw [if_pos (sqB_mk hv h0.symm), e]; rfl
  have hne := h.ro.ne
  have hiff : det n (Q L) = 0 ↔ s.piv.length < n := by
    constructor
    · intro e2
      rcases Nat.lt_or_ge s.piv.length n with h1 | h1
      · exact h1
      · rw [hdi.1 (by omega)] at e2; exact absurd e2 hne
    · exact hdi.2
  have hrk := h.rf.rank h.ro (Nat.le_refl n)
  have hmul := fun X => h.rf.det_mul h.ro (Nat.le_refl n) X
  by_cases hlt : s.piv.length < n
  · refine ⟨z0, s.piv.length, by rw [hdet]; unfold detE; rw [if_pos hlt], okz, by rw [qv_z0, hdi.2 hlt], hrank, hrk, hiff, hmul⟩
  · obtain ⟨d, e2, hd⟩ := prod_val h.pv (fun k hk => hA k (by omega)) (fun k hk => hS k (by omega)) s.piv.length 0 o1 1 (by omega) ⟨oko, qv_o1, show (valZ o1.1).natAbs ≤ 1 by decide +kernel, show (valZ o1.2).natAbs ≤ 1 by decide +kernel⟩
    have hval : qv d = prd s.piv := by rw [hd.eq, List.drop_zero]; grind
    have hdd : detS n L = some (if s.sw % 2 = 1 then negR d else d) := by rw [hdet]; unfold detE; rw [if_neg hlt, e2]; rfl
    have hf := hdi.1 (by omega)
    refine ⟨_, s.piv.length, hdd, ?_, ?_, hrank, hrk, hiff, hmul⟩
    · split
      · exact (negR_q hd.ok).1
      · exact hd.ok
    · rw [hf]
      unfold sgw
      by_cases e3 : s.sw % 2 = 1
      · rw [if_pos e3, if_neg (by omega), (negR_q hd.ok).2, hval]; grind
      · rw [if_neg e3, if_pos (by omega), hval]; grind
theorem det_val {n N D : Nat} {L : Rows} (hn : 1 ≤ n) (hn8 : n ≤ 8) (ok : OkL n n L) (hr : Rep n n L N D) (hg : Gr n n n 1 (gA N) (gB N N) (gS N D)) (hA : ∀ k, k ≤ n → pA (gA N) k < T200) (hS : ∀ k, k ≤ n → pA (gS N D) k < T200) :
    ∃ d r, detS n L = some d ∧ okR d = true ∧ qv d = det n (Q L) ∧ rankS n L = some r ∧ Rk n n r (Q L) ∧ (det n (Q L) = 0 ↔ r < n) ∧ ∀ X, det n (La.mul n (Q L) X) = det n (Q L) * det n X := by
  obtain ⟨U, t, hU⟩ := hr
  obtain ⟨s, e, h⟩ := elim_val (w := fun _ => 1) ok hg (fun j _ => ⟨show (1 : Int) ≠ 0 by decide, show Int.natAbs 1 ≤ 1 by decide, fun _ => rfl⟩) (Nat.le_refl n) U t (fun i hi => ⟨(hU i hi).1, (hU i hi).2.1, fun j hj => ⟨by rw [Int.mul_one]; exact ((hU i hi).2.2 j hj).1, by rw [if_pos hj]; exact ((hU i hi).2.2 j hj).2⟩⟩)
  exact det_end hn hn8 ok e h hA hS
end Go.Proofs.YtepcnphmfbbhiaaGreatDoor
set_option linter.all false
namespace Go.Proofs.YtepcnphmfbbhiaaGreatDoor
open Go Go.Eng Go.RowKit La
def pB (a0 s0 R : Nat) : Bool := (List.range (R + 1)).all fun k => Nat.blt (pA (gA a0) k) T200 && Nat.blt (pA (gS a0 s0) k) T200
theorem pB_get {a0 s0 R : Nat} (h : pB a0 s0 R = true) {k : Nat} (hk : k ≤ R) : pA (gA a0) k < T200 ∧ pA (gS a0 s0) k < T200 := by
  have := List.all_eq_true.1 h k (List.mem_range.2 (by omega))
  simpa only [Bool.and_eq_true, Nat.blt_eq] using this
theorem det_of {n N D : Nat} {L : Rows} (hn : 1 ≤ n) (hn4 : n ≤ 4) (ok : OkL n n L) (hr : Rep n n L N D) (hN : 1 ≤ N) (hD : 1 ≤ D) (hg : grB 4 4 1 N N D = true) (hp : pB N D 4 = true) :
    ∃ d r, detS n L = some d ∧ okR d = true ∧ qv d = det n (Q L) ∧ rankS n L = some r ∧ Rk n n r (Q L) ∧ (det n (Q L) = 0 ↔ r < n) ∧ ∀ X, det n (La.mul n (Q L) X) = det n (Q L) * det n X :=
  det_val hn (by omega) ok hr (Gr.of hg (by decide) hN hD (.inl hn4) hn4) (fun k hk => (pB_get hp (by omega)).1) (fun k hk => (pB_get hp (by omega)).2)
theorem cast_pow (t : Int) : ∀ n : Nat, ((t ^ n : Int) : Rat) = (t : Rat) ^ n
  | 0 => by rw [Int.pow_zero, Rat.pow_zero]; rfl
  | n + 1 => by rw [Int.pow_succ, Rat.pow_succ, Rat.intCast_mul, cast_pow t n]
theorem ipow_ne {t : Int} (h : t ≠ 0) : ∀ n : Nat, t ^ n ≠ 0
  | 0 => by simp
  | n + 1 => by rw [Int.pow_succ]; intro e; exact (Int.mul_eq_zero.1 e).elim (ipow_ne h n) h
theorem det_frac {n : Nat} {A : Mx} {U : Nat → Nat → Int} {t : Int} {N : Nat → Nat} (ht : t ≠ 0) (h : ∀ i, i < n → ∀ j, j < n → A i j = (U i j : Rat) / (t : Rat) ∧ (U i j).natAbs ≤ N j) :
    ∃ z : Int, det n A = (z : Rat) / ((t ^ n : Int) : Rat) ∧ z.natAbs ≤ fac n * pN N n := by
  obtain ⟨z, h1, h2⟩ := det_int n (fun i j => (U i j : Rat)) N (fun i hi j hj => ⟨U i j, rfl, (h i hi j hj).2⟩)
  refine ⟨z, ?_, h2⟩
  rw [det_congr (A := A) (B := fun i j => (U i j : Rat) / (t : Rat)) (fun i hi j hj => (h i hi j hj).1), det_div (t : Rat) (rat_ne ht) n, h1, cast_pow]
end Go.Proofs.YtepcnphmfbbhiaaGreatDoor
set_option linter.all false
namespace Go.Proofs.YtepcnphmfbbhiaaGreatDoor
open Go Go.Eng Go.RowKit La
theorem uR_atI {i n j : Nat} (h : j < n) : rAt (uR i n) j = if i = j then o1 else z0 := by
  rw [rAt_get (by rw [uR_len]; exact h)]; simp [uR]
theorem uR_q {i n j : Nat} (h : j < n) : qv (rAt (uR i n) j) = one i j := by
  rw [uR_atI h]; unfold one
  split
  · exact qv_o1
  · exact qv_z0
theorem besU_l {n m : Nat} {L : Rows} (ok : OkL n m L) {i j : Nat} (hi : i < n) (hj : j < m) : Q (besU n L) i j = Q L i j := by
  unfold Q besU; rw [rAt_appL (by rw [(ok i hi).1]; exact hj)]
theorem besU_r {n m : Nat} {L : Rows} (ok : OkL n m L) {i j : Nat} (hi : i < n) (hj : j < n) : Q (besU n L) i (m + j) = one i j := by
  unfold Q besU; rw [rAt_appR (by rw [(ok i hi).1]; omega), (ok i hi).1, show m + j - m = j by omega]; exact uR_q hj
theorem rAt_drop {l : List R} {n j : Nat} : rAt (l.drop n) j = rAt l (n + j) := by unfold rAt; simp [List.getD, List.getElem?_drop]
theorem inv_val {n N1 N2 D : Nat} {L : Rows} (hn : 1 ≤ n) (hn8 : n ≤ 8) (ok : OkL n n L) (X : Nat → Nat → Int) (t : Nat → Int) (ht : ∀ i, i < n → t i ≠ 0 ∧ (t i).natAbs ≤ D ∧ (t i).natAbs ≤ N2)
    (hX : ∀ i, i < n → ∀ j, j < n → Q L i j = (X i j : Rat) / (t i : Rat) ∧ (X i j).natAbs ≤ N1) (hg : Gr n (n + n) n 1 (gA N1) (gB N1 N2) (gS N1 D)) :
    ∃ r, Rk n n r (Q L) ∧ ((r < n ∧ invS n L = none) ∨ (r = n ∧ ∃ B, invS n L = some B ∧ OkL n n B ∧ Eq2 n n (La.mul n (Q B) (Q L)) one ∧ Eq2 n n (La.mul n (Q L) (Q B)) one)) := by
  obtain ⟨hv, h0⟩ := vM_mk hn hn8 hn hn8 ok
  have okU : OkL n (n + n) (besU n L) := by have := besU_ok (vM_T hv); rwa [h0] at this
  obtain ⟨s, e, h⟩ := elim_val (w := fun _ => 1) (V := 1) okU hg (fun j _ => ⟨show (1 : Int) ≠ 0 by decide, show Int.natAbs 1 ≤ 1 by decide, fun _ => rfl⟩) (Nat.le_add_right n n) (fun i j => if j < n then X i j else if i = j - n then t i else 0) t (fun i hi => by
    obtain ⟨t1, t2, t3⟩ := ht i hi
    refine ⟨t1, t2, fun j hj => ?_⟩
    by_cases e : j < n
    · simp only [if_pos e, Int.mul_one]
      rw [besU_l ok hi e]
      exact hX i hi j e
    · simp only [if_neg e, Int.mul_one]
      obtain ⟨k, rfl⟩ : ∃ k, j = n + k := ⟨j - n, by omega⟩
      have q1 := rat_ne t1
      rw [besU_r ok hi (by omega), show n + k - n = k by omega]
      unfold one
      by_cases e2 : i = k
      · rw [if_pos e2, if_pos e2]; exact ⟨by grind, t3⟩
      · rw [if_neg e2, if_neg e2]; exact ⟨by simp; grind, by simp⟩)
  have hwide : Eq2 n n (Q (besU n L)) (Q L) := fun i hi j hj => besU_l ok hi hj
  have hS : invS n L = invE n s := by unfold invS; rw [if_pos (sqB_mk hv h0.symm), e]; rfl
  have hrn := h.rf.rn
  refine ⟨s.piv.length, rk_cong (h.rf.rank h.ro (Nat.le_add_right n n)) hwide, ?_⟩
  by_cases hlt : s.piv.length < n
  · left; exact ⟨hlt, by rw [hS]; unfold invE; rw [if_pos hlt]⟩
  · right
    have hfull : RF n n n (fun l => s.cols.getD l 0) (Q s.L) := by have := h.rf; rwa [show s.piv.length = n by omega] at this
    have hB : ∀ i, i < n → ∀ j, j < n → Q s.L i (n + j) = Q (fun i => (s.L i).drop n) i j := fun i _ j _ => by unfold Q; rw [rAt_drop]
    have := RF.inverse h.ro hfull hwide (fun i hi j hj => besU_r ok hi hj) hB
    refine ⟨by omega, fun i => (s.L i).drop n, by rw [hS]; unfold invE; rw [if_neg hlt], fun i hi => ⟨by rw [List.length_drop, (h.ok i hi).1]; omega, fun j hj => by rw [rAt_drop]; exact (h.ok i hi).2 (n + j) (by omega)⟩, this.1, this.2⟩
end Go.Proofs.YtepcnphmfbbhiaaGreatDoor
set_option linter.all false
namespace Go.Proofs.YtepcnphmfbbhiaaGreatDoor
open Go Go.Eng Go.RowKit
section
variable {f : FuncId} {a : Array Value} {w : World} {lo n m : Nat}
theorem cEq {X Y : Value} (h : Calls Tryz.prog f a w (Ret w fun v _ => v = X)) (e : X = Y) : Calls Tryz.prog f a w (Ret w fun v _ => v = Y) := e ▸ h
theorem cOutM {o o' : Option Rows} (h : Calls Tryz.prog f a w (Ret w fun v w' => OutM lo w' n o v)) (e : o = o') : Calls Tryz.prog f a w (Ret w fun v w' => OutM lo w' n o' v) := e ▸ h
theorem cOutV {o o' : Option (List R × Bool)} (h : Calls Tryz.prog f a w (Ret w fun v w' => OutV lo w' o v)) (e : o = o') : Calls Tryz.prog f a w (Ret w fun v w' => OutV lo w' o' v) := e ▸ h
theorem cMat {L : Rows} (h : Calls Tryz.prog f a w (Ret w fun v w' => MatR lo w' v n L)) (e : n = m) : Calls Tryz.prog f a w (Ret w fun v w' => MatR lo w' v m L) := e ▸ h
end
end Go.Proofs.YtepcnphmfbbhiaaGreatDoor
