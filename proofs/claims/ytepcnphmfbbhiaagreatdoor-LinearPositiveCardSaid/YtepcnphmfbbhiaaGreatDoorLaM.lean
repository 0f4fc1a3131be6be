/- Part of the proof that all functions of the layer agree with the reference implementation. -/
import Derived.Test.YtepcnphmfbbhiaaGreatDoorLaGToLin33
import Derived.Test.YtepcnphmfbbhiaaGreatDoorLa1ToLa6
set_option linter.all false
set_option linter.all false
namespace Go.Proofs.YtepcnphmfbbhiaaGreatDoor
open Go Go.Eng Go.RowKit La
theorem elimF_add {n m : Nat} : ∀ (f g c : Nat) (s : El), elimF n m (f + g) c s = (elimF n m f c s).bind (elimF n m g (c + f))
  | 0, g, c, s => by simp [elimF]
  | f + 1, g, c, s => by
    rw [show f + 1 + g = (f + g) + 1 by omega, elimF, elimF]
    cases colE n m c s with
    | none => rfl
    | some s' => dsimp only; rw [elimF_add f g, show c + 1 + f = c + (f + 1) by omega]
structure EP (n c : Nat) (A : Mx) (s : El) : Prop where
  len : s.piv.length = c
  top : ∀ i, i < c → ∃ e : Nat → Rat, ∀ j, j < n → Q s.L i j = sm c (fun t => e t * A t j)
  low : ∀ i, c ≤ i → i < n → ∃ e : Nat → Rat, ∀ j, j < n → Q s.L i j = A i j + sm c (fun t => e t * A t j)
theorem sm_ext {c : Nat} {e f : Nat → Rat} {k : Rat} : sm c (fun t => e t * f t) + k * f c = sm (c + 1) (fun t => (if t < c then e t else k) * f t) := by
  show _ = sm c (fun t => (if t < c then e t else k) * f t) + (if c < c then e c else k) * f c
  rw [if_neg (Nat.lt_irrefl c)]
  congr 1
  exact sm_congr fun t ht => by rw [if_pos ht]
theorem EP.step {n c V : Nat} {w : Nat → Int} {A : Mx} {a b S : Nat → Nat} {s : El} (h : EI n n n c w A a b S s) (hp : EP n c A s) (pd : PD n A) (hc : c < n) (hg : GrA c n V a b S) (hwt : Wt n n V w) : ∃ s', colE n n c s = some s' ∧ EI n n n (c + 1) w A a b S s' ∧ EP n (c + 1) A s' := by
  obtain ⟨s', h1, h2, h3⟩ := h.colS (fun _ _ => by rw [hp.len]; exact hg) hwt hc (Nat.le_refl n)
  rw [hp.len] at h3
  obtain ⟨e0, he0⟩ := hp.low c (Nat.le_refl c) hc
  have hz : Q s.L c c ≠ 0 := fun e => pd.apart hc (e := e0) fun j hj => by
    rw [← he0 j (by omega)]
    by_cases ej : j = c
    · rw [ej]; exact e
    · exact h.rf.zero c (by rw [hp.len]; exact Nat.le_refl c) hc j (by omega)
  obtain ⟨l1, l2⟩ := h3 hc hz
  refine ⟨s', h1, h2, ⟨l1, ?_, ?_⟩⟩
  · have hc' : ∀ j, j < n → Q s'.L c j = sm (c + 1) (fun t => (if t < c then e0 t / Q s.L c c else 1 / Q s.L c c) * A t j) := fun j hj => by
      rw [(l2 j hj).1, he0 j hj, ← sm_ext]
      rw [sm_congr (f := fun t => e0 t / Q s.L c c * A t j) (g := fun t => 1 / Q s.L c c * (e0 t * A t j)) (fun t _ => by grind), sm_mul]; grind
    intro i hi
    by_cases e : i = c
    · subst e; exact ⟨_, hc'⟩
    · obtain ⟨e1, he1⟩ := hp.top i (by omega)
      refine ⟨fun t => (if t < c then e1 t else 0) - Q s.L i c * (if t < c then e0 t / Q s.L c c else 1 / Q s.L c c), fun j hj => ?_⟩
      rw [(l2 j hj).2 i (by omega) e, he1 j hj, hc' j hj]
      rw [sm_congr (n := c + 1) (f := fun t => ((if t < c then e1 t else 0) - Q s.L i c * (if t < c then e0 t / Q s.L c c else 1 / Q s.L c c)) * A t j) (g := fun t => (if t < c then e1 t else 0) * A t j - Q s.L i c * ((if t < c then e0 t / Q s.L c c else 1 / Q s.L c c) * A t j)) (fun t _ => by grind), sm_sub, sm_mul, ← sm_ext (e := e1) (k := 0) (f := fun t => A t j)]; grind
  · have hc' : ∀ j, j < n → Q s'.L c j = sm (c + 1) (fun t => (if t < c then e0 t / Q s.L c c else 1 / Q s.L c c) * A t j) := fun j hj => by
      rw [(l2 j hj).1, he0 j hj, ← sm_ext]
      rw [sm_congr (f := fun t => e0 t / Q s.L c c * A t j) (g := fun t => 1 / Q s.L c c * (e0 t * A t j)) (fun t _ => by grind), sm_mul]; grind
    intro i hi hin
    obtain ⟨e1, he1⟩ := hp.low i (by omega) hin
    refine ⟨fun t => (if t < c then e1 t else 0) - Q s.L i c * (if t < c then e0 t / Q s.L c c else 1 / Q s.L c c), fun j hj => ?_⟩
    rw [(l2 j hj).2 i hin (by omega), he1 j hj, hc' j hj]
    rw [sm_congr (n := c + 1) (f := fun t => ((if t < c then e1 t else 0) - Q s.L i c * (if t < c then e0 t / Q s.L c c else 1 / Q s.L c c)) * A t j) (g := fun t => (if t < c then e1 t else 0) * A t j - Q s.L i c * ((if t < c then e0 t / Q s.L c c else 1 / Q s.L c c) * A t j)) (fun t _ => by grind), sm_sub, sm_mul, ← sm_ext (e := e1) (k := 0) (f := fun t => A t j)]; grind
theorem EP.goTo {n V : Nat} {w : Nat → Int} {A : Mx} {a b S : Nat → Nat} (pd : PD n A) (hwt : Wt n n V w) : ∀ (f c : Nat) (s : El), c + f ≤ n → (∀ r, c ≤ r → r < c + f → GrA r n V a b S) → EI n n n c w A a b S s → EP n c A s → ∃ s', elimF n n f c s = some s' ∧ EI n n n (c + f) w A a b S s' ∧ EP n (c + f) A s'
  | 0, c, s, _, _, h, hp => ⟨s, rfl, h, hp⟩
  | f + 1, c, s, hc, hg, h, hp => by
    obtain ⟨s1, h1, h2, h3⟩ := EP.step h hp pd (by omega) (hg c (Nat.le_refl c) (by omega)) hwt
    obtain ⟨s2, h4, h5, h6⟩ := EP.goTo pd hwt f (c + 1) s1 (by omega) (fun r h1 h2 => hg r (by omega) (by omega)) h2 h3
    rw [show c + 1 + f = c + (f + 1) by omega] at h5 h6
    exact ⟨s2, by rw [elimF, h1]; exact h4, h5, h6⟩
theorem GrA.of {R M V a0 b0 s0 r m : Nat} (h : grB R M V a0 b0 s0 = true) (hV : 1 ≤ V) (hr : r < R) (hM : m ≤ M) : GrA r m V (gA a0) (gB a0 b0) (gS a0 s0) := by
  have h1 := List.all_eq_true.1 h r (List.mem_range.2 hr)
  simp only [Bool.and_eq_true, Bool.or_eq_true, Nat.blt_eq, Nat.ble_eq] at h1
  exact ⟨hV, Nat.le_refl _, Nat.le_refl _, Nat.le_refl _, h1.1, fun h4 => by
    rcases h1.2 with h5 | h5
    · omega
    · exact h5⟩
def gL (c N1 : Nat) (f : Nat → Nat) : Nat → Nat := fun r => if r < c then f r else if r = c then N1 else 2 * (N1 * N1)
theorem det_last {c N D N1 : Nat} {g : Int} {B : Rows} {G : Mx} {t : Int} (hn8 : c + 1 ≤ 8) (ok : OkL (c + 1) (c + 1) B) (pd : PD (c + 1) (Q B)) (hr : RepC (c + 1) (c + 1) B N t) (ht : t ≠ 0) (htD : t.natAbs ≤ D) (hN : 1 ≤ N) (hD : 1 ≤ D)
    (hBG : Eq2 (c + 1) (c + 1) (La.mul (c + 1) (Q B) G) one) (V : Nat → Int) (hg : g ≠ 0) (hgN : g.natAbs ≤ N1) (hG : ∀ i, i < c + 1 → G i c = (V i : Rat) / (g : Rat) ∧ (V i).natAbs ≤ N1)
    (hgr : grB c (c + 1) 1 N N D = true) (hN1 : 2 * (N1 * N1) < T200) (hA : ∀ k, k ≤ c + 1 → pA (gL c N1 (gA N)) k < T200) (hS : ∀ k, k ≤ c + 1 → pA (gL c N1 (gS N D)) k < T200) :
    ∃ d, detS (c + 1) B = some d ∧ okR d = true ∧ qv d = det (c + 1) (Q B) := by
  obtain ⟨U, hU⟩ := hr
  have hwt : Wt (c + 1) (c + 1) 1 (fun _ => 1) := fun j _ => ⟨show (1 : Int) ≠ 0 by decide, show Int.natAbs 1 ≤ 1 by decide, fun _ => rfl⟩
  have h0 : EI (c + 1) (c + 1) (c + 1) 0 (fun _ => 1) (Q B) (gA N) (gB N N) (gS N D) ⟨B, [], [], 0⟩ :=
    ⟨ok, Nat.zero_le _, rfl, by simpa [sgw, prd] using RO.refl, ⟨Nat.zero_le _, fun _ _ _ h => absurd h (by simp), fun _ h => absurd h (by simp), fun _ _ _ h => absurd h (by simp), fun _ _ _ _ h => absurd h (by omega)⟩, hN, hD, ⟨U, fun _ => t, 1, ⟨by decide, hD, fun _ h => absurd h (by simp)⟩, fun i hi => ⟨ht, htD, fun j hj => ⟨by rw [Int.mul_one]; exact (hU i hi j hj).1, by rw [if_pos hj]; exact (hU i hi j hj).2⟩⟩⟩, fun _ h => absurd h (by simp)⟩
  obtain ⟨s, e1, hE, hP⟩ := EP.goTo pd hwt c 0 ⟨B, [], [], 0⟩ (by omega) (fun r _ h2 => GrA.of hgr (by decide) (by omega) (Nat.le_refl _)) h0 ⟨rfl, fun i hi => absurd hi (by omega), fun i _ _ => ⟨fun _ => 0, fun j _ => by simp only [sm]; grind⟩⟩
  rw [Nat.zero_add] at hE hP
  have hlen := hP.len
  have hpl : ∀ l, l < c → s.cols.getD l 0 = l := RF.idp (fun x y h1 h2 => hE.rf.inc x y h1 (by omega)) (fun x hx => hE.rf.lt x (by omega))
  have hun : ∀ i, i < c + 1 → ∀ l, l < c → Q s.L i l = if i = l then 1 else 0 := fun i hi l hl => by
    have := hE.rf.unit i hi l (by omega)
    rwa [hpl l hl] at this
  have hVc := hG c (by omega)
  have hgq := rat_ne hg
  have key : ∀ i, i < c + 1 → sm c (fun j => Q s.L i j * G j c) + Q s.L i c * G c c = if i = c then 1 else 0 := fun i hi => by
    have h1 : ∀ e : Nat → Rat, sm (c + 1) (fun j => sm c (fun u => e u * Q B u j) * G j c) = 0 := fun e => by
      have h2 : sm (c + 1) (fun j => sm c (fun u => e u * Q B u j) * G j c) = mul c (fun _ u => e u) (mul (c + 1) (Q B) G) 0 c := by rw [← mul_assoc]; rfl
      rw [h2]
      exact sm_zero fun u hu => by rw [hBG u (by omega) c (by omega)]; unfold one; rw [if_neg (by omega)]; grind
    show sm (c + 1) (fun j => Q s.L i j * G j c) = _
    by_cases e : i = c
    · subst e
      obtain ⟨e0, he⟩ := hP.low i (Nat.le_refl i) hi
      rw [sm_congr (n := i + 1) (g := fun j => Q B i j * G j i + sm i (fun u => e0 u * Q B u j) * G j i) (fun j hj => by rw [he j hj]; grind), sm_add, h1, if_pos rfl]
      have := hBG i hi i hi
      unfold La.mul at this; rw [this]; unfold one; rw [if_pos rfl]; grind
    · obtain ⟨e0, he⟩ := hP.top i (by omega)
      rw [sm_congr (n := c + 1) (g := fun j => sm c (fun u => e0 u * Q B u j) * G j c) (fun j hj => by rw [he j hj]), h1, if_neg e]
  have hcc : Q s.L c c * G c c = 1 := by
    have := key c (by omega)
    rw [sm_zero (fun j hj => by rw [hun c (by omega) j hj, if_neg (by omega)]; grind), if_pos rfl] at this
    rw [← this]; grind
  have hic : ∀ i, i < c → Q s.L i c * G c c = - G i c := fun i hi => by
    have := key i (by omega)
    rw [sm_one hi (fun j hj hne => by rw [hun i (by omega) j hj, if_neg (fun e => hne e.symm)]; grind), hun i (by omega) i hi, if_pos rfl, if_neg (by omega)] at this
    have h2 : G i c + Q s.L i c * G c c = 0 := by rw [← this]; grind
    grind
  have hV0 : V c ≠ 0 := fun e => by rw [hVc.1, e] at hcc; simp at hcc; grind
  have hVq := rat_ne hV0
  have hE' : EI (c + 1) (c + 1) (c + 1) c (fun _ => 1) (Q B) (gL c N1 (gA N)) (gL c N1 (gA N)) (gL c N1 (gS N D)) s := by
    have hN1' : 1 ≤ N1 := by omega
    have f1 : gL c N1 (gA N) c = N1 := by unfold gL; rw [if_neg (Nat.lt_irrefl c), if_pos rfl]
    have f2 : gL c N1 (gS N D) c = N1 := by unfold gL; rw [if_neg (Nat.lt_irrefl c), if_pos rfl]
    refine ⟨hE.ok, hE.rc, hE.len, hE.ro, hE.rf, by rw [hlen, f1]; exact hN1', by rw [hlen, f2]; exact hN1', ?_, fun l hl => ?_⟩
    · rw [hlen, f1, f2]
      refine ⟨fun i j => if j = c then (if i = c then g else - V i) else (if i = j then V c else 0), fun _ => V c, V c, ⟨hV0, hVc.2, fun _ _ => Int.dvd_refl _⟩, fun i hi => ⟨hV0, hVc.2, fun j hj => ?_⟩⟩
      rw [Int.mul_one]
      by_cases ej : j = c
      · subst ej
        simp only [if_true]
        by_cases ei : i = j
        · subst ei
          simp only [if_true]
          refine ⟨?_, by split <;> exact hgN⟩
          rw [hVc.1] at hcc; grind
        · simp only [if_neg ei]
          refine ⟨?_, by rw [Int.natAbs_neg]; split <;> exact (hG i hi).2⟩
          have h3 := hic i (by omega)
          rw [hVc.1, (hG i hi).1] at h3
          rw [Rat.intCast_neg]; grind
      · simp only [if_neg ej]
        rw [hun i hi j (by omega)]
        by_cases ei : i = j
        · simp only [if_pos ei]; exact ⟨by grind, by split <;> exact hVc.2⟩
        · simp only [if_neg ei]; exact ⟨by simp; grind, by simp⟩
    · have := hE.pv l hl
      rw [hlen] at hl
      unfold gL
      rwa [if_pos hl, if_pos hl]
  have g1 : gL c N1 (gA N) c = N1 := by unfold gL; rw [if_neg (Nat.lt_irrefl c), if_pos rfl]
  have g2 : gL c N1 (gS N D) c = N1 := by unfold gL; rw [if_neg (Nat.lt_irrefl c), if_pos rfl]
  have g3 : gL c N1 (gA N) (c + 1) = 2 * (N1 * N1) := by unfold gL; rw [if_neg (by omega), if_neg (by omega)]
  have g4 : gL c N1 (gS N D) (c + 1) = 2 * (N1 * N1) := by unfold gL; rw [if_neg (by omega), if_neg (by omega)]
  obtain ⟨s', e2, hF, _⟩ := hE'.colS (V := 1) (fun _ _ => by
    rw [hlen]
    exact ⟨Nat.le_refl 1, by rw [g1, g3]; exact Nat.le_refl _, by rw [g1, g3]; exact Nat.le_refl _, by rw [g2, g1, g4]; omega, by rw [g1, g2]; exact ⟨hN1, by omega⟩, fun h => by omega⟩) hwt (by omega) (Nat.le_refl _)
  have he : elim (c + 1) (c + 1) (c + 1) B = some s' := by
    unfold elim
    rw [elimF_add c 1, e1, Nat.zero_add]
    show elimF (c + 1) (c + 1) 1 c s = some s'
    rw [elimF, e2]; rfl
  obtain ⟨d, _, h1, h2, h3, _⟩ := det_end (by omega) hn8 ok he hF hA hS
  exact ⟨d, h1, h2, h3⟩
theorem qv_pos {d : R} (h : okR d = true) : 0 < qv d ↔ ¬ sgnI (valZ d.1) ≤ 0 := by
  unfold sgnI
  rw [cmpI_nonpos]
  have hp := okR_pos h
  have hd : (0 : Rat) < (valZ d.2 : Rat) := by rw [← Rat.intCast_zero]; exact Rat.intCast_lt_intCast.2 hp
  have hq : (valZ d.1 : Rat) = qv d * (valZ d.2 : Rat) := by have := den_ne h; unfold qv; grind
  constructor
  · intro h1 h2
    have h3 := Rat.mul_pos h1 hd
    rw [← hq, ← Rat.intCast_zero] at h3
    have := Rat.intCast_lt_intCast.1 h3
    omega
  · intro h1
    have h2 : (0 : Rat) < (valZ d.1 : Rat) := by rw [← Rat.intCast_zero]; exact Rat.intCast_lt_intCast.2 (by omega)
    rw [hq] at h2
    refine Rat.not_le.1 fun hle => ?_
    have h4 := Rat.mul_nonneg (show 0 ≤ - qv d by grind) (Rat.le_of_lt hd)
    grind
theorem qv_nn {d : R} (h : okR d = true) (h0 : 0 ≤ qv d) : ¬ sgnI (valZ d.1) < 0 := by
  unfold sgnI
  have hp := okR_pos h
  have hd : (0 : Rat) < (valZ d.2 : Rat) := by rw [← Rat.intCast_zero]; exact Rat.intCast_lt_intCast.2 hp
  have hq : (valZ d.1 : Rat) = qv d * (valZ d.2 : Rat) := by have := den_ne h; unfold qv; grind
  have h2 : (0 : Rat) ≤ (valZ d.1 : Rat) := by rw [hq]; exact Rat.mul_nonneg h0 (Rat.le_of_lt hd)
  rw [← Rat.intCast_zero] at h2
  have := Rat.intCast_le_intCast.1 h2
  unfold cmpI
  split <;> (try split) <;> omega
theorem posZ_yes {L : Rows} {n : Nat} : ∀ (f k : Nat), k + f = n → (∀ j, k ≤ j → j < n → ∃ d, detS (j + 1) (fun i => (L i).take (j + 1)) = some d ∧ okR d = true ∧ 0 < qv d) → posF L f k = some true
  | 0, _, _, _ => rfl
  | f + 1, k, hk, h => by
    obtain ⟨d, h1, h2, h3⟩ := h k (Nat.le_refl k) (by omega)
    rw [posF, h1]
    dsimp only
    rw [if_neg ((qv_pos h2).1 h3)]
    exact posZ_yes f (k + 1) (by omega) fun j h1 h2 => h j (by omega) h2
theorem posZ_no {L : Rows} {n : Nat} : ∀ (f k : Nat), k + f = n → 1 ≤ f → (∀ j, k ≤ j → j < n → ∃ d, detS (j + 1) (fun i => (L i).take (j + 1)) = some d ∧ okR d = true ∧ (j + 1 = n → qv d = 0)) → posF L f k = some false
  | 0, _, _, h0, _ => absurd h0 (by omega)
  | f + 1, k, hk, _, h => by
    obtain ⟨d, h1, h2, h3⟩ := h k (Nat.le_refl k) (by omega)
    rw [posF, h1]
    dsimp only
    by_cases e : sgnI (valZ d.1) ≤ 0
    · rw [if_pos e]
    · rw [if_neg e]
      have h4 := (qv_pos h2).2 e
      have h5 : k + 1 ≠ n := fun e2 => by rw [h3 e2] at h4; grind
      exact posZ_no f (k + 1) (by omega) (by omega) fun j h1 h2 => h j (by omega) h2
theorem rAt_take {l : List R} {k j : Nat} (h : j < k) : rAt (l.take k) j = rAt l j := by unfold rAt; rw [List.getD, List.getD, List.getElem?_take_of_lt h]
theorem take_ok {n k : Nat} {L : Rows} (ok : OkL n n L) (hk : k ≤ n) : OkL k k (fun i => (L i).take k) := fun i hi => ⟨by rw [List.length_take, (ok i (by omega)).1]; omega, fun j hj => by rw [rAt_take hj]; exact (ok i (by omega)).2 j (by omega)⟩
theorem take_q {k : Nat} {L : Rows} {i j : Nat} (hj : j < k) : Q (fun i => (L i).take k) i j = Q L i j := by unfold Q; rw [rAt_take hj]
theorem det_ofR {n N D R : Nat} {L : Rows} (hn : 1 ≤ n) (hn8 : n ≤ 8) (hR : n ≤ R) (ok : OkL n n L) (hr : Rep n n L N D) (hN : 1 ≤ N) (hD : 1 ≤ D) (hg : grB R R 1 N N D = true) (hp : pB N D R = true) :
    ∃ d r, detS n L = some d ∧ okR d = true ∧ qv d = det n (Q L) ∧ rankS n L = some r ∧ Rk n n r (Q L) ∧ (det n (Q L) = 0 ↔ r < n) ∧ ∀ X, det n (La.mul n (Q L) X) = det n (Q L) * det n X :=
  det_val hn hn8 ok hr (Gr.of hg (by decide) hN hD (.inl hR) hR) (fun k hk => (pB_get hp (by omega)).1) (fun k hk => (pB_get hp (by omega)).2)
theorem minor {n N D R k : Nat} {L : Rows} {t : Int} (hn8 : n ≤ 8) (hk : k < n) (hkR : k + 1 ≤ R) (ok : OkL n n L) (hr : RepC n n L N t) (ht : t ≠ 0) (htD : t.natAbs ≤ D) (hN : 1 ≤ N) (hD : 1 ≤ D) (hg : grB R R 1 N N D = true) (hp : pB N D R = true) :
    ∃ d, detS (k + 1) (fun i => (L i).take (k + 1)) = some d ∧ okR d = true ∧ qv d = det (k + 1) (Q L) := by
  obtain ⟨U, hU⟩ := hr
  obtain ⟨d, _, h1, h2, h3, _⟩ := det_ofR (n := k + 1) (by omega) (by omega) hkR (take_ok ok (by omega)) ⟨U, fun _ => t, fun i hi => ⟨ht, htD, fun j hj => by rw [take_q hj]; exact hU i (by omega) j (by omega)⟩⟩ hN hD hg hp
  exact ⟨d, h1, h2, by rw [h3]; exact det_congr fun i _ j hj => take_q hj⟩
theorem inv_repG {n N0 N1 : Nat} {t0 : Int} {A B : Rows} (ht0 : t0 ≠ 0) (hA : RepC n n A N0 t0) (h : Eq2 n n (La.mul n (Q A) (Q B)) one) (hd : det n (Q A) ≠ 0) (hb : ∀ i, i < n → fac n * pN (fun c => if c = i then t0.natAbs else N0) n ≤ N1) : ∃ z : Int, z ≠ 0 ∧ z.natAbs ≤ fac n * N0 ^ n ∧ RepC n n B N1 z := by
  obtain ⟨U, hU⟩ := hA
  obtain ⟨z, h1, h2⟩ := det_frac (N := fun _ => N0) ht0 hU
  rw [pN_const] at h2
  have hz : z ≠ 0 := fun e => hd (by rw [h1, e]; simp; grind)
  have qp := rat_ne (ipow_ne ht0 n)
  have qz := rat_ne hz
  have q0 := rat_ne ht0
  refine ⟨z, hz, h2, RepC.mk fun i hi j hj => ?_⟩
  obtain ⟨y, y1, y2⟩ := det_frac (A := uc (Q A) i (fun k => one k j)) (U := fun k c => if c = i then (if k = j then t0 else 0) else U k c) (N := fun c => if c = i then t0.natAbs else N0) ht0 (fun k hk c hc => by
    unfold uc
    by_cases e : c = i
    · simp only [if_pos e]
      unfold one
      by_cases e2 : k = j
      · rw [if_pos e2, if_pos e2]; exact ⟨by grind, Nat.le_refl _⟩
      · rw [if_neg e2, if_neg e2]; exact ⟨by simp; grind, by simp⟩
    · simp only [if_neg e]; exact hU k hk c hc)
  have hcr := cramer (A := Q A) (b := fun k => one k j) (x := fun k => Q B k j) (fun k hk => (h k hk j hj).symm) hi
  refine ⟨y, ?_, Nat.le_trans y2 (hb i hi)⟩
  rw [y1, h1] at hcr
  have : Q B i j * (z : Rat) = (y : Rat) := by
    have h3 : (y : Rat) = Q B i j * ((z : Rat) / ((t0 ^ n : Int) : Rat)) * ((t0 ^ n : Int) : Rat) := by rw [← hcr]; grind
    rw [h3]; grind
  rw [← this]; grind
theorem gram_bd : ∀ n : Fin 5, ∀ i : Fin 5, i.val < n.val → fac n.val * pN (fun c => if c = i.val then 36 else 9216) n.val ≤ 680000000000000 := by decide +kernel
theorem gram_bz : ∀ n : Fin 5, fac n.val * 9216 ^ n.val ≤ 174000000000000000 := by decide +kernel
theorem last_bA : ∀ k : Fin 5, pA (gL 3 9216 (gA 680000000000000)) k.val < T200 ∧ pA (gL 3 9216 (gS 680000000000000 174000000000000000)) k.val < T200 := by decide +kernel
theorem positive_law {n m : Nat} {A : Rows} (hn : 1 ≤ n) (hn4 : n ≤ 4) (hm : 1 ≤ m) (hm4 : m ≤ 4) (hA : MakeR n m A) :
    ∃ r G, rankS n A = some r ∧ r ≤ m ∧ vM n A = true ∧ (A 0).length = m ∧ OkL m n (fun j => trR A n j) ∧ mulS m (fun j => trR A n j) n A = some G ∧ OkL m m G ∧ posS m G = some (decide (r = m)) ∧
      (∀ v : List R, v.length = m → (∀ k, k < m → VecR (rAt v k)) → ∃ W K, mulS m G m (lastC v) = some W ∧ OkL m 1 W ∧ mulS 1 (fun _ => v) m W = some K ∧ OkL 1 1 K ∧ ¬ sgnI (valZ (rAt (K 0) 0).1) < 0 ∧ (r = m → (∃ k, k < m ∧ rAt v k ≠ z0) → ¬ sgnI (valZ (rAt (K 0) 0).1) ≤ 0)) ∧
      ((r < m ∧ invS m G = none) ∨ (r = m ∧ ∃ B, invS m G = some B ∧ OkL m m B ∧ posS m B = some true)) := by
  obtain ⟨okA, rA⟩ := make_rep hA
  obtain ⟨v1, l1⟩ := vM_mk hn (by omega) hm (by omega) okA
  have g1 : grB 5 5 1 48 48 6 = true := by decide +kernel
  have g2 : grB 4 4 1 9216 9216 36 = true := by decide +kernel
  have p2 : pB 9216 36 4 = true := by decide +kernel
  obtain ⟨r, er, hr⟩ := rank_val hn (by omega) hm (by omega) okA (rA.rep (by decide)) (Gr.of g1 (by decide) (by decide) (by decide) (.inl (by omega)) (by omega))
  have okT : OkL m n (fun j => trR A n j) := fun j hj => ⟨trR_len _ _ _, fun i hi => by rw [trR_at _ _ hi]; exact (okA i hi).2 j hj⟩
  obtain ⟨UA, hUA⟩ := rA
  have rT : RepC m n (fun j => trR A n j) 48 6 := ⟨fun i j => UA j i, fun i hi j hj => by rw [tr_q (m := m) i j hj]; exact hUA j hj i hi⟩
  obtain ⟨G, eG, okG, hG, rG⟩ := mul_val hm (by omega) hn (by omega) hm (by omega) okT okA rT ⟨UA, hUA⟩ (by decide) (by decide)
    (Nat.lt_of_le_of_lt (Nat.mul_le_mul_right _ (Nat.mul_le_mul_right _ (by omega : n + 1 ≤ 5))) (by decide +kernel)) (by decide +kernel)
  have rG : RepC m m G 9216 36 := by
    obtain ⟨U, hU⟩ := rG
    exact ⟨U, fun i hi j hj => ⟨(hU i hi j hj).1, by have := (hU i hi j hj).2; omega⟩⟩
  have hGr : Eq2 m m (La.mul n (tr (Q A)) (Q A)) (Q G) := fun i hi j hj => by
    rw [hG i hi j hj]; exact (sm_congr fun k hk => by rw [tr_q (m := m) i k hk]).symm
  have hsym : ∀ i, i < m → ∀ j, j < m → Q G i j = Q G j i := fun i hi j hj => by
    rw [← hGr i hi j hj, ← hGr j hj i hi]; exact sm_congr fun k _ => Rat.mul_comm _ _
  have hSym : Sym m G := fun i hi k hk => qv_inj ((okG i hi).2 k (by omega)) ((okG k (by omega)).2 i hi) (hsym i hi k (by omega))
  obtain ⟨vG, lG⟩ := vM_mk hm (by omega) hm (by omega) okG
  have hminG : ∀ k, k < m → ∃ d, detS (k + 1) (fun i => (G i).take (k + 1)) = some d ∧ okR d = true ∧ qv d = det (k + 1) (Q G) := fun k hk => minor (R := 4) (D := 36) (by omega) hk (by omega) okG rG (by decide) (by decide) (by decide) (by decide) g2 p2
  obtain ⟨_, rg, _, _, _, erg, hrg, hdg, _⟩ := det_of hm hm4 okG (rG.rep (by decide)) (by decide) (by decide) g2 p2
  have hpd : r = m → PD m (Q G) := fun e => by subst e; exact (PD.gram hr).congr hGr
  have hpos : posS m G = some (decide (r = m)) := by
    unfold posS
    rw [if_pos (sqB_mk vG lG.symm), if_pos hSym]
    by_cases e : r = m
    · rw [decide_eq_true e]
      exact posZ_yes (n := m) m 0 (Nat.zero_add m) fun j _ hj => by
        obtain ⟨d, h1, h2, h3⟩ := hminG j hj
        exact ⟨d, h1, h2, by rw [h3]; exact ((hpd e).lead (by omega)).det_pos⟩
    · rw [decide_eq_false e]
      have hrm := hr.le_m
      have hle : rg ≤ r := hr.mul_r (rk_cong hrg (fun i hi j hj => (hGr i hi j hj).symm))
      have hd0 : det m (Q G) = 0 := hdg.2 (by omega)
      exact posZ_no (n := m) m 0 (Nat.zero_add m) hm fun j _ hj => by
        obtain ⟨d, h1, h2, h3⟩ := hminG j hj
        exact ⟨d, h1, h2, fun e => by rw [h3, e]; exact hd0⟩
  refine ⟨r, G, er, hr.le_m, v1, l1, okT, eG, okG, hpos, ?_, ?_⟩
  · intro v hl hV
    obtain ⟨T, T0, Tb, Td⟩ := common m hV
    have T4 : T.natAbs ≤ 60 ^ 4 := Nat.le_trans Tb (Nat.pow_le_pow_right (by decide) hm4)
    have okV : ∀ k, k < m → okR (rAt v k) = true := fun k hk => (hV k hk).1
    have rV : RepC m 1 (lastC v) (999 * 60 ^ 4) T := ⟨fun i _ => valZ (rAt v i).1 * (T / valZ (rAt v i).2), fun i hi j hj => by
      rw [lastC_q hj]
      have := vec_rep (hV i hi) (Td i hi) T0
      exact ⟨this.1, Nat.le_trans this.2 (Nat.mul_le_mul_left _ T4)⟩⟩
    have b1 : T.natAbs ≤ 12960000 := T4
    obtain ⟨W, eW, okW, hW, rW⟩ := mul_val hm (by omega) hm (by omega) (by decide) (by decide) okG (lastC_ok okV) rG rV (by decide) T0
      (Nat.lt_of_le_of_lt (Nat.mul_le_mul (Nat.mul_le_mul_right _ (by omega : m + 1 ≤ 5)) (Nat.mul_le_mul_left _ b1)) (by decide +kernel)) (Nat.lt_of_le_of_lt (Nat.mul_le_mul (Nat.mul_le_mul_left _ b1) (Nat.mul_le_mul_left _ b1)) (by decide +kernel))
    have okv : OkL 1 m (fun _ => v) := fun i _ => ⟨hl, fun k hk => okV k hk⟩
    have rv : RepC 1 m (fun _ => v) (999 * 60 ^ 4) T := ⟨fun _ j => valZ (rAt v j).1 * (T / valZ (rAt v j).2), fun i _ j hj => by
      have := vec_rep (hV j hj) (Td j hj) T0
      exact ⟨this.1, Nat.le_trans this.2 (Nat.mul_le_mul_left _ T4)⟩⟩
    have T36 : (36 : Int) * T ≠ 0 := by omega
    have b2 : ((36 : Int) * T).natAbs ≤ 466560000 := by omega
    have rW' : RepC m 1 W (4 * (9216 * (999 * 60 ^ 4))) (36 * T) := by
      obtain ⟨U, hU⟩ := rW
      exact ⟨U, fun i hi j hj => ⟨(hU i hi j hj).1, Nat.le_trans (hU i hi j hj).2 (Nat.mul_le_mul_right _ hm4)⟩⟩
    obtain ⟨K, eK, okK, hK, _⟩ := mul_val (by decide) (by decide) hm (by omega) (by decide) (by decide) okv okW rv rW' T0 T36
      (Nat.lt_of_le_of_lt (Nat.mul_le_mul (Nat.mul_le_mul_right _ (by omega : m + 1 ≤ 5)) (Nat.mul_le_mul b1 b2)) (by decide +kernel)) (Nat.lt_of_le_of_lt (Nat.mul_le_mul (Nat.mul_le_mul b1 b2) (Nat.mul_le_mul b1 b2)) (by decide +kernel))
    have hq : qv (rAt (K 0) 0) = qf m (Q G) (fun k => qv (rAt v k)) := by
      have h1 := hK 0 (by decide) 0 (by decide)
      unfold Q at h1
      rw [h1]
      refine sm_congr fun i hi => ?_
      have h2 := hW i hi 0 (by decide)
      unfold Q at h2
      show qv (rAt v i) * qv (rAt (W i) 0) = _
      rw [h2]
      rfl
    have okq := (okK 0 (by decide)).2 0 (by decide)
    refine ⟨W, K, eW, okW, eK, okK, qv_nn okq ?_, fun e ⟨k, hk, hne⟩ => (qv_pos okq).1 ?_⟩
    · rw [hq, ← qf_congr hGr]; exact qf_gram_nn
    · rw [hq]; exact hpd e _ ⟨k, hk, fun e => hne ((qv_zero (okV k hk)).1 e)⟩
  · obtain ⟨U, hU⟩ := rG
    obtain ⟨r', hr', hs⟩ := inv_val (N1 := 9216) (N2 := 36) (D := 36) hm (by omega) okG U (fun _ => 36) (fun i _ => by decide) hU (Gr.of (by decide +kernel : grB 4 8 1 9216 36 36 = true) (by decide) (by decide) (by decide) (.inl hm4) (by omega))
    have hrr : r' = rg := Rk.uniq hr' hrg
    subst hrr
    have hle : r' ≤ r := hr.mul_r (rk_cong hrg (fun i hi j hj => (hGr i hi j hj).symm))
    have hrm := hr.le_m
    rcases hs with ⟨h1, h2⟩ | ⟨h1, B, h2, okB, hBG, hGB⟩
    · left
      refine ⟨?_, h2⟩
      refine Nat.lt_of_le_of_ne hrm fun e => ?_
      have := (hpd e).det_pos
      rw [hdg.2 h1] at this; grind
    · right
      have hrm' : r = m := by omega
      have pG := hpd hrm'
      have pB' := PD.inv pG hGB
      have hdne : det m (Q G) ≠ 0 := fun e => by have := pG.det_pos; rw [e] at this; grind
      obtain ⟨z, z0', z1, rB⟩ := inv_repG (N1 := 680000000000000) (by decide : (36 : Int) ≠ 0) ⟨U, hU⟩ hGB hdne (fun i hi => gram_bd ⟨m, by omega⟩ ⟨i, by omega⟩ hi)
      have z2 : z.natAbs ≤ 174000000000000000 := Nat.le_trans z1 (gram_bz ⟨m, by omega⟩)
      refine ⟨hrm', B, h2, okB, ?_⟩
      obtain ⟨vB, lB⟩ := vM_mk hm (by omega) hm (by omega) okB
      have hsB : Sym m B := fun i hi k hk => qv_inj ((okB i hi).2 k (by omega)) ((okB k (by omega)).2 i hi) (inv_sym hBG hGB hsym i hi k (by omega))
      unfold posS
      rw [if_pos (sqB_mk vB lB.symm), if_pos hsB]
      refine posZ_yes (n := m) m 0 (Nat.zero_add m) fun j _ hj => ?_
      by_cases e : j + 1 ≤ 3
      · obtain ⟨d, h3, h4, h5⟩ := minor (N := 680000000000000) (R := 3) (D := 174000000000000000) (by omega) hj e okB rB z0' z2 (by decide) (by decide) (by decide +kernel) (by decide +kernel)
        exact ⟨d, h3, h4, by rw [h5]; exact (pB'.lead (by omega)).det_pos⟩
      · have hm4' : m = 4 := by omega
        subst hm4'
        have hj3 : j = 3 := by omega
        subst hj3
        have okT4 := take_ok okB (Nat.le_refl 4)
        have hT : ∀ i, i < 4 → ∀ j, j < 4 → Q (fun i => (B i).take 4) i j = Q B i j := fun i _ j hj => take_q hj
        obtain ⟨UB, hUB⟩ := rB
        obtain ⟨d, h3, h4, h5⟩ := det_last (c := 3) (D := 174000000000000000) (N1 := 9216) (g := 36) (G := Q G) (by decide) okT4 (pB'.congr fun i hi j hj => (hT i hi j hj).symm) ⟨UB, fun i hi j hj => by rw [hT i hi j hj]; exact hUB i hi j hj⟩ z0' z2 (by decide) (by decide)
          (fun i hi j hj => by rw [← hBG i hi j hj]; exact sm_congr fun k hk => by rw [hT i hi k hk]) (fun i => U i 3) (by decide) (by decide) (fun i hi => hU i hi 3 (by decide)) (by decide +kernel) (by decide +kernel)
          (fun k hk => (last_bA ⟨k, by omega⟩).1) (fun k hk => (last_bA ⟨k, by omega⟩).2)
        exact ⟨d, h3, h4, by rw [h5, det_congr hT]; exact pB'.det_pos⟩
end Go.Proofs.YtepcnphmfbbhiaaGreatDoor
