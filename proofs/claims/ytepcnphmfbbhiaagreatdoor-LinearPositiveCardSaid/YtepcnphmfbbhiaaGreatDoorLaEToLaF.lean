/- Part of the proof that all functions of the layer agree with the reference implementation. -/
import Derived.Test.YtepcnphmfbbhiaaGreatDoorLaR
import Derived.Test.YtepcnphmfbbhiaaGreatDoorLa1ToLa6
set_option linter.all false
set_option linter.all false
namespace Go.Proofs.YtepcnphmfbbhiaaGreatDoor
open Go Go.Eng Go.RowKit La
def Q (L : Rows) : Mx := fun i j => qv (rAt (L i) j)
theorem RO.clear {n m : Nat} {A B : Mx} {f : Rat} {r c : Nat} (h : RO n m A B f) (hr : r < n) : ∀ k, k ≤ n → RO n m A (fun i j => if i = r then B i j else if i < k then B i j - B i c * B r j else B i j) f
  | 0, _ => h.eq fun i _ j _ => by simp
  | k + 1, hk => by
    have ih := RO.clear (c := c) h hr k (by omega)
    by_cases e : k = r
    · refine ih.eq fun i _ j _ => ?_
      by_cases h1 : i = r
      · simp [h1]
      · simp only [if_neg h1, show (i < k + 1) = (i < k) from propext ⟨fun _ => by omega, fun _ => by omega⟩]
    · refine (ih.add (c := - B k c) (i := k) (r := r) (by omega) hr e).eq fun i _ j _ => ?_
      unfold ur
      by_cases h1 : i = k
      · subst h1
        simp only [if_neg e, Nat.lt_irrefl, if_false, show i < i + 1 from Nat.lt_succ_self i, if_true]; grind
      · rw [if_neg h1]
        by_cases h2 : i = r
        · simp [h2]
        · simp only [if_neg h2, show (i < k + 1) = (i < k) from propext ⟨fun _ => by omega, fun _ => by omega⟩]
section steps
variable {n m r i c : Nat}
theorem divL_ok (hr : r < n) (pv : R) (y : Rat) : ∀ (f k : Nat) (L : Rows), k + f = m → OkL n m L → (∀ j, k ≤ j → j < m → ∃ q, divR (rAt (L r) j) pv = some q ∧ okR q = true ∧ qv q = qv (rAt (L r) j) / y) →
    ∃ L2, divL r pv f k L = some L2 ∧ OkL n m L2 ∧ (∀ i, i ≠ r → L2 i = L i) ∧ (∀ j, j < k → rAt (L2 r) j = rAt (L r) j) ∧ ∀ j, k ≤ j → j < m → qv (rAt (L2 r) j) = qv (rAt (L r) j) / y
  | 0, k, L, _, hok, _ => ⟨L, rfl, hok, fun _ _ => rfl, fun _ _ => rfl, fun j h1 h2 => by omega⟩
  | f + 1, k, L, hk, hok, h => by
    obtain ⟨q, h1, h2, h3⟩ := h k (Nat.le_refl _) (by omega)
    have hl : k < (L r).length := by rw [(hok r hr).1]; omega
    have hset : ∀ j, rAt ((L r).set k q) j = if j = k then q else rAt (L r) j := fun j => rAt_set hl
    obtain ⟨L2, e, ok2, o1, o2, o3⟩ := divL_ok hr pv y f (k + 1) (updF L r ((L r).set k q)) (by omega) (hok.set (by omega) hr h2) (fun j h1 h2 => by
      rw [updF_eq, hset, if_neg (by omega)]; exact h j (by omega) h2)
    refine ⟨L2, by rw [divL, h1]; exact e, ok2, fun i hi => by rw [o1 i hi, updF_ne _ _ hi], fun j hj => by rw [o2 j (by omega), updF_eq, hset, if_neg (by omega)], fun j h4 h5 => ?_⟩
    by_cases e2 : j = k
    · subst e2; rw [o2 j (by omega), updF_eq, hset, if_pos rfl, h3]
    · rw [o3 j (by omega) h5, updF_eq, hset, if_neg e2]
theorem subL_ok (hi : i < n) (hne : i ≠ r) (by_ : R) (y : Rat) : ∀ (f k : Nat) (L : Rows), k + f = m → OkL n m L →
    (∀ j, k ≤ j → j < m → ∃ p, mulR by_ (rAt (L r) j) = some p ∧ ∃ d, subR (rAt (L i) j) p = some d ∧ okR d = true ∧ qv d = qv (rAt (L i) j) - y * qv (rAt (L r) j)) →
    ∃ L2, subL r i by_ f k L = some L2 ∧ OkL n m L2 ∧ (∀ i', i' ≠ i → L2 i' = L i') ∧ (∀ j, j < k → rAt (L2 i) j = rAt (L i) j) ∧ ∀ j, k ≤ j → j < m → qv (rAt (L2 i) j) = qv (rAt (L i) j) - y * qv (rAt (L r) j)
  | 0, k, L, _, hok, _ => ⟨L, rfl, hok, fun _ _ => rfl, fun _ _ => rfl, fun j h1 h2 => by omega⟩
  | f + 1, k, L, hk, hok, h => by
    obtain ⟨p, h0, q, h1, h2, h3⟩ := h k (Nat.le_refl _) (by omega)
    have hl : k < (L i).length := by rw [(hok i hi).1]; omega
    have hset : ∀ j, rAt ((L i).set k q) j = if j = k then q else rAt (L i) j := fun j => rAt_set hl
    obtain ⟨L2, e, ok2, o1, o2, o3⟩ := subL_ok hi hne by_ y f (k + 1) (updF L i ((L i).set k q)) (by omega) (hok.set (by omega) hi h2) (fun j h1 h2 => by
      rw [updF_eq, updF_ne _ _ (fun e => hne e.symm), hset, if_neg (by omega)]; exact h j (by omega) h2)
    refine ⟨L2, by rw [subL, h0]; show (match subR (rAt (L i) k) p with | none => none | some d => _) = _; rw [h1]; exact e, ok2, fun i' hi => by rw [o1 i' hi, updF_ne _ _ hi], fun j hj => by rw [o2 j (by omega), updF_eq, hset, if_neg (by omega)], fun j h4 h5 => ?_⟩
    by_cases e2 : j = k
    · subst e2; rw [o2 j (by omega), updF_eq, hset, if_pos rfl, h3]
    · rw [o3 j (by omega) h5, updF_eq, hset, if_neg e2, updF_ne _ _ (fun e => hne e.symm)]
theorem clrL_ok (hc : c < m) : ∀ (f k : Nat) (L : Rows), k + f = n → OkL n m L →
    (∀ i, k ≤ i → i < n → i ≠ r → ∀ j, c ≤ j → j < m → ∃ p, mulR (rAt (L i) c) (rAt (L r) j) = some p ∧ ∃ d, subR (rAt (L i) j) p = some d ∧ okR d = true ∧ qv d = qv (rAt (L i) j) - qv (rAt (L i) c) * qv (rAt (L r) j)) →
    ∃ L2, clrL m r c f k L = some L2 ∧ OkL n m L2 ∧ L2 r = L r ∧ (∀ i, i < k → L2 i = L i) ∧ ∀ i, k ≤ i → i < n → i ≠ r → (∀ j, j < c → rAt (L2 i) j = rAt (L i) j) ∧ ∀ j, c ≤ j → j < m → qv (rAt (L2 i) j) = qv (rAt (L i) j) - qv (rAt (L i) c) * qv (rAt (L r) j)
  | 0, k, L, _, hok, _ => ⟨L, rfl, hok, rfl, fun _ _ => rfl, fun i h1 h2 => by omega⟩
  | f + 1, k, L, hk, hok, h => by
    by_cases hs : k = r ∨ rAt (L k) c = z0
    · obtain ⟨L2, e, ok2, o1, o2, o3⟩ := clrL_ok hc f (k + 1) L (by omega) hok (fun i h1 h2 => h i (by omega) h2)
      refine ⟨L2, by rw [clrL, if_pos hs]; exact e, ok2, o1, fun i hi => o2 i (by omega), fun i h1 h2 h3 => ?_⟩
      by_cases e2 : i = k
      · subst e2
        rw [o2 i (by omega)]
        refine ⟨fun _ _ => rfl, fun j _ _ => ?_⟩
        rcases hs with hs | hs
        · exact absurd hs h3
        · rw [hs, qv_z0]; grind
      · exact o3 i (by omega) h2 h3
    · have hkr : k ≠ r := fun e => hs (.inl e)
      obtain ⟨L1, e1, ok1, p1, p2, p3⟩ := subL_ok (r := r) (by omega : k < n) hkr (rAt (L k) c) (qv (rAt (L k) c)) (m - c) c L (by omega) hok (fun j h1 h2 => h k (Nat.le_refl _) (by omega) hkr j h1 h2)
      have hr1 : L1 r = L r := p1 r (fun e => hkr e.symm)
      obtain ⟨L2, e, ok2, o1, o2, o3⟩ := clrL_ok hc f (k + 1) L1 (by omega) ok1 (fun i h1 h2 h3 j h4 h5 => by
        rw [p1 i (by omega), hr1]; exact h i (by omega) h2 h3 j h4 h5)
      refine ⟨L2, by rw [clrL, if_neg hs, e1]; exact e, ok2, by rw [o1, hr1], fun i hi => by rw [o2 i (by omega), p1 i (by omega)], fun i h1 h2 h3 => ?_⟩
      by_cases e2 : i = k
      · subst e2
        rw [o2 i (by omega)]
        exact ⟨p2, p3⟩
      · have := o3 i (by omega) h2 h3
        rw [p1 i e2, hr1] at this
        exact this
theorem pivL_spec (c : Nat) (L : Rows) : ∀ (f p : Nat), (∀ i, p ≤ i → i < pivL c L f p → rAt (L i) c = z0) ∧ (pivL c L f p < p + f → ¬ rAt (L (pivL c L f p)) c = z0)
  | 0, p => ⟨fun i h1 h2 => by unfold pivL at h2; omega, fun h => by unfold pivL at h; omega⟩
  | f + 1, p => by
    unfold pivL
    by_cases e : rAt (L p) c = z0
    · rw [if_pos e]
      have ih := pivL_spec c L f (p + 1)
      refine ⟨fun i h1 h2 => ?_, fun h => ih.2 (by omega)⟩
      by_cases e2 : i = p
      · rw [e2]; exact e
      · exact ih.1 i (by omega) h2
    · rw [if_neg e]
      exact ⟨fun i h1 h2 => by omega, fun _ => e⟩
end steps
end Go.Proofs.YtepcnphmfbbhiaaGreatDoor
set_option linter.all false
namespace Go.Proofs.YtepcnphmfbbhiaaGreatDoor
open Go Go.Eng Go.RowKit La
def sgw (k : Nat) : Rat := if k % 2 = 0 then 1 else -1
theorem sgw_succ (k : Nat) : sgw (k + 1) = - sgw k := by
  unfold sgw
  rcases Nat.mod_two_eq_zero_or_one k with h | h
  · rw [if_neg (by omega), if_pos h]
  · rw [if_pos (by omega), if_neg (by omega)]; grind
def prd : List R → Rat
  | [] => 1
  | a :: l => qv a * prd l
theorem prd_snoc (l : List R) (q : R) : prd (l ++ [q]) = prd l * qv q := by
  induction l with
  | nil => simp [prd]
  | cons a l ih => simp only [List.cons_append, prd, ih]; grind
structure Gr (n m cols V : Nat) (a b S : Nat → Nat) : Prop where
  v0 : 1 ≤ V
  a0 : 1 ≤ a 0
  s0 : 1 ≤ S 0
  ga : ∀ r, r < n → r < cols → 2 * (a r * a r) ≤ a (r + 1)
  gb : ∀ r, r < n → r < cols → 2 * (a r * b r) ≤ b (r + 1)
  gs : ∀ r, r < n → r < cols → S r * a r ≤ S (r + 1)
  c1 : ∀ r, r < n → r < cols → 2 * (a r * S r) < T200 ∧ S r * S r < T200
  c2 : ∀ r, r < n → r < cols → r + 1 < m → 2 * (a r * ((a r + b r) * (S r * V))) < T200 ∧ S r * V * (S r * V * a r) < T200
structure GrA (r m V : Nat) (a b S : Nat → Nat) : Prop where
  v0 : 1 ≤ V
  ga : 2 * (a r * a r) ≤ a (r + 1)
  gb : 2 * (a r * b r) ≤ b (r + 1)
  gs : S r * a r ≤ S (r + 1)
  c1 : 2 * (a r * S r) < T200 ∧ S r * S r < T200
  c2 : r + 1 < m → 2 * (a r * ((a r + b r) * (S r * V))) < T200 ∧ S r * V * (S r * V * a r) < T200
theorem Gr.at {n m cols V r : Nat} {a b S : Nat → Nat} (h : Gr n m cols V a b S) (h1 : r < n) (h2 : r < cols) : GrA r m V a b S := ⟨h.v0, h.ga r h1 h2, h.gb r h1 h2, h.gs r h1 h2, h.c1 r h1 h2, h.c2 r h1 h2⟩
structure EI (n m cols c : Nat) (w : Nat → Int) (A : Mx) (a b S : Nat → Nat) (s : El) : Prop where
  ok : OkL n m s.L
  rc : s.piv.length ≤ c
  len : s.cols.length = s.piv.length
  ro : RO n m A (Q s.L) (sgw s.sw * prd s.piv)
  rf : RF n c s.piv.length (fun l => s.cols.getD l 0) (Q s.L)
  a1 : 1 ≤ a s.piv.length
  s1 : 1 ≤ S s.piv.length
  bnd : ∃ (U : Nat → Nat → Int) (t : Nat → Int) (T : Int), (T ≠ 0 ∧ T.natAbs ≤ S s.piv.length ∧ ∀ l, l < s.piv.length → t l ∣ T) ∧ ∀ i, i < n → t i ≠ 0 ∧ (t i).natAbs ≤ S s.piv.length ∧ ∀ j, j < m → Q s.L i j = (U i j : Rat) / ((t i * w j : Int) : Rat) ∧ (U i j).natAbs ≤ (if j < cols then a s.piv.length else b s.piv.length)
  pv : ∀ l, l < s.piv.length → Bq (s.piv.getD l z0) (qv (s.piv.getD l z0)) (a l) (S l)
theorem rat_div_zero {u t : Int} (ht : t ≠ 0) (h : (u : Rat) / (t : Rat) = 0) : u = 0 := by
  have h1 := rat_ne ht
  refine rat_int_inj ?_
  rw [Rat.intCast_zero]
  grind
theorem frac_step {x y z t u w : Rat} (ht : t ≠ 0) (hu : u ≠ 0) (hw : w ≠ 0) : x / (t * w) - y / t * (z / (u * w)) = (u * x - y * z) / (t * u * w) := by grind
def Wt (m cols V : Nat) (w : Nat → Int) : Prop := ∀ j, j < m → w j ≠ 0 ∧ (w j).natAbs ≤ V ∧ (j < cols → w j = 1)
set_option maxHeartbeats 8000000 in
theorem EI.colS {n m cols c V : Nat} {w : Nat → Int} {A : Mx} {a b S : Nat → Nat} {s : El} (h : EI n m cols c w A a b S s) (hg : s.piv.length < n → s.piv.length < cols → GrA s.piv.length m V a b S) (hwt : Wt m cols V w) (hc : c < cols) (hm : cols ≤ m) : ∃ s', colE n m c s = some s' ∧ EI n m cols (c + 1) w A a b S s' ∧
    (s.piv.length < n → Q s.L s.piv.length c ≠ 0 → s'.piv.length = s.piv.length + 1 ∧ ∀ j, j < m → Q s'.L s.piv.length j = Q s.L s.piv.length j / Q s.L s.piv.length c ∧ ∀ i, i < n → i ≠ s.piv.length → Q s'.L i j = Q s.L i j - Q s.L i c * Q s'.L s.piv.length j) := by
  obtain ⟨L, piv, cs, sw⟩ := s
  have hok := h.ok; have hrc := h.rc; have hlen := h.len; have hro := h.ro; have hrf := h.rf; have ha1 := h.a1; have hs1 := h.s1; have hpv := h.pv
  dsimp only at hok hrc hlen hro hrf ha1 hs1 hpv hg ⊢
  obtain ⟨U, t, T, hT, hU⟩ := h.bnd
  dsimp only at hU hT
  have hps := pivL_spec c L (n - piv.length) piv.length
  have hpb := pivL_bd c L (n - piv.length) piv.length
  have hrn := hrf.rn
  unfold colE
  dsimp only
  generalize hP : pivL c L (n - piv.length) piv.length = p at *
  by_cases hpn : p = n
  · rw [if_pos hpn]
    refine ⟨_, rfl, ?_, fun h1 h2 => absurd (show qv (rAt (L piv.length) c) = 0 by rw [hps.1 _ (Nat.le_refl _) (by omega), qv_z0]) h2⟩
    refine ⟨hok, by dsimp only; omega, hlen, hro, ⟨hrn, hrf.inc, fun x hx => Nat.lt_succ_of_lt (hrf.lt x hx), hrf.unit, fun i h1 h2 j hj => ?_⟩, ha1, hs1, ⟨U, t, T, hT, hU⟩, hpv⟩
    by_cases e : j = c
    · subst e
      show qv (rAt (L i) j) = 0
      rw [hps.1 i h1 (by omega), qv_z0]
    · exact hrf.zero i h1 h2 j (by omega)
  · rw [if_neg hpn]
    have hp : p < n := by omega
    have hr : piv.length < n := by omega
    have hpz : ¬ rAt (L p) c = z0 := hps.2 (by omega)
    have hrcols : piv.length < cols := by omega
    obtain ⟨hv0, ga, gb, gs, ⟨k1, k2⟩, k3⟩ := hg hr hrcols
    clear hg
    generalize hR : piv.length = r at *
    have hac : a r < T200 := Nat.lt_of_le_of_lt (Nat.le_mul_of_pos_right _ hs1) (by omega : a r * S r < T200)
    have ok1 : OkL n m (swL p r L) := hok.sw hp hr
    let U1 : Nat → Nat → Int := fun i j => U (swF p r i) j
    let t1 : Nat → Int := fun i => t (swF p r i)
    have hU1 : ∀ i, i < n → t1 i ≠ 0 ∧ (t1 i).natAbs ≤ S r ∧ ∀ j, j < m → Q (swL p r L) i j = (U1 i j : Rat) / ((t1 i * w j : Int) : Rat) ∧ (U1 i j).natAbs ≤ (if j < cols then a r else b r) := fun i hi => hU _ (swF_lt hp hr hi)
    have hz1 : ∀ i, r ≤ i → i < n → ∀ j, j < c → Q (swL p r L) i j = 0 := fun i h1 h2 j hj => hrf.zero _ (by unfold swF; split <;> (try split) <;> omega) (swF_lt hp hr h2) j hj
    have hpe : rAt (swL p r L r) c = rAt (L p) c := by rw [swL_top rfl]
    have hok_pv : okR (rAt (L p) c) = true := (hok p hp).2 c (by omega)
    have hy0 : qv (rAt (L p) c) ≠ 0 := fun e => hpz ((qv_zero hok_pv).1 e)
    have hwc : w c = 1 := (hwt c (by omega)).2.2 hc
    have hyU : qv (rAt (L p) c) = (U1 r c : Rat) / (t1 r : Rat) := by have := ((hU1 r hr).2.2 c (by omega)).1; unfold Q at this; rw [hpe, hwc, Int.mul_one] at this; exact this
    have htw : ∀ i, i < n → ∀ j, j < m → t1 i * w j ≠ 0 := fun i hi j hj e => by
      rcases Int.mul_eq_zero.1 e with e | e
      · exact (hU1 i hi).1 e
      · exact (hwt j hj).1 e
    have hUc0 : U1 r c ≠ 0 := fun e => hy0 (by rw [hyU, e]; simp; grind)
    have hUcb : (U1 r c).natAbs ≤ a r := by have := ((hU1 r hr).2.2 c (by omega)).2; rwa [if_pos hc] at this
    have htr := (hU1 r hr).1
    have qt := rat_ne htr
    have qu := rat_ne hUc0
    have bpv : Bq (rAt (L p) c) (qv (rAt (L p) c)) (a r) (S r) := by
      have := Bq.of hok_pv htr hyU hUcb (hU1 r hr).2.1
      exact ⟨this.ok, rfl, this.num, this.den⟩
    have hw : ∀ j, j < m → (U1 r j).natAbs ≤ a r + b r := fun j hj => by have := ((hU1 r hr).2.2 j hj).2; split at this <;> omega
    have bx : ∀ i, i < n → ∀ j, j < m → Bq (rAt (swL p r L i) j) (Q (swL p r L) i j) (if j = c then a r else a r + b r) (if j = c then S r else S r * V) := by
      intro i hi j hj
      obtain ⟨h1, h2, h3⟩ := hU1 i hi
      obtain ⟨h4, h5⟩ := h3 j hj
      have := Bq.of (a := rAt (swL p r L i) j) (N := if j = c then a r else a r + b r) (D := if j = c then S r else S r * V) ((ok1 i hi).2 j hj) (htw i hi j hj) h4 (by
        split
        · rename_i e; subst e; rwa [if_pos hc] at h5
        · split at h5 <;> omega) (by
        rw [Int.natAbs_mul]
        split
        · rename_i e; rw [e, hwc]; simpa using h2
        · exact Nat.mul_le_mul h2 (hwt j hj).2.1)
      rw [← h4] at this; exact this
    have c2' : ∀ j, c < j → j < m → 2 * (a r * ((a r + b r) * (S r * V))) < T200 ∧ S r * V * (S r * V * a r) < T200 := fun j h1 h2 => k3 (by omega)
    obtain ⟨L2, e2, ok2, o1, o2, o3⟩ := divL_ok (m := m) hr (rAt (L p) c) (qv (rAt (L p) c)) (m - c) c (swL p r L) (by omega) ok1 (fun j h1 h2 => by
      by_cases e : j = c
      · have hb := bx r hr j h2
        rw [if_pos e, if_pos e] at hb
        exact divR_val hb bpv hy0 (by omega) (by rw [Nat.mul_comm]; omega)
      · obtain ⟨q1, q2⟩ := c2' j (by omega) h2
        have hb := bx r hr j h2
        rw [if_neg e, if_neg e] at hb
        refine divR_val hb bpv hy0 (Nat.lt_of_le_of_lt ?_ q1) (Nat.lt_of_le_of_lt (Nat.le_mul_of_pos_left _ (Nat.mul_pos hs1 hv0)) q2)
        calc (a r + b r) * S r ≤ (a r + b r) * (S r * V) := Nat.mul_le_mul_left _ (Nat.le_mul_of_pos_right _ hv0)
          _ ≤ a r * ((a r + b r) * (S r * V)) := Nat.le_mul_of_pos_left _ ha1
          _ ≤ 2 * (a r * ((a r + b r) * (S r * V))) := by omega)
    rw [e2]
    have huw : ∀ j, j < m → U1 r c * w j ≠ 0 := fun j hj e => by
      rcases Int.mul_eq_zero.1 e with e | e
      · exact hUc0 e
      · exact (hwt j hj).1 e
    have hQ2r : ∀ j, j < m → Q L2 r j = (U1 r j : Rat) / ((U1 r c * w j : Int) : Rat) := by
      intro j hj
      have qw := rat_ne (hwt j hj).1
      have h3 := ((hU1 r hr).2.2 j hj).1
      by_cases e : j < c
      · have h4 := hz1 r (Nat.le_refl _) hr j e
        have h5 : U1 r j = 0 := rat_div_zero (htw r hr j hj) (by rw [← h3]; exact h4)
        show qv (rAt (L2 r) j) = _
        rw [o2 j e, h5]
        show Q (swL p r L) r j = _
        rw [h4]; simp; grind
      · show qv (rAt (L2 r) j) = _
        rw [o3 j (by omega) hj]
        show Q (swL p r L) r j / _ = _
        rw [h3, hyU, Rat.intCast_mul, Rat.intCast_mul]; grind
    have hQ2i : ∀ i, i ≠ r → L2 i = swL p r L i := o1
    have h2rc : Q L2 r c = 1 := by rw [hQ2r c (by omega), hwc, Int.mul_one]; grind
    have btop : ∀ j, c ≤ j → j < m → Bq (rAt (L2 r) j) (Q L2 r j) (if j = c then 1 else a r + b r) (if j = c then 1 else a r * V) := by
      intro j h1 h2
      have hk := (ok2 r hr).2 j h2
      by_cases e : j = c
      · subst e
        rw [if_pos rfl, if_pos rfl]
        have := Bq.of (u := 1) (s := 1) (N := 1) (D := 1) hk (by decide) (by show Q L2 r j = _; rw [h2rc]; simp; grind) (by decide) (by decide)
        exact ⟨this.ok, rfl, this.num, this.den⟩
      · rw [if_neg e, if_neg e]
        have := Bq.of (D := a r * V) hk (huw j h2) (hQ2r j h2) (hw j h2) (by rw [Int.natAbs_mul]; exact Nat.mul_le_mul hUcb (hwt j h2).2.1)
        exact ⟨this.ok, rfl, this.num, this.den⟩
    obtain ⟨L3, e3, ok3, p1, _, p3⟩ := clrL_ok (r := r) (c := c) (m := m) (by omega) n 0 L2 (by omega) ok2 (fun i _ hi hne j h1 h2 => by
      rw [hQ2i i hne]
      have hb := bx i hi c (by omega)
      rw [if_pos rfl, if_pos rfl] at hb
      have hx := bx i hi j h2
      have ht := btop j h1 h2
      obtain ⟨g1, g2, g3⟩ := hU1 i hi
      by_cases e : j = c
      · rw [if_pos e, if_pos e] at hx ht
        obtain ⟨q, f1, f2, f3⟩ := mulR_val hb ht (by rw [Nat.mul_one]; exact hac) (by rw [Nat.mul_one]; exact Nat.lt_of_le_of_lt (Nat.le_mul_of_pos_left _ hs1) k2)
        refine ⟨q, f1, ?_⟩
        have hq : qv q = (U1 i c : Rat) / (t1 i : Rat) := by rw [f3, (g3 c (by omega)).1, hwc, Int.mul_one, show Q L2 r j = 1 by rw [e]; exact h2rc]; grind
        have bq := Bq.of (N := a r) (D := S r) f2 g1 hq (by have := (g3 c (by omega)).2; rwa [if_pos hc] at this) g2
        obtain ⟨d, d1, d2, d3⟩ := subR_val hx bq (by omega) k2
        exact ⟨d, d1, d2, by rw [d3, ← hq, f3]; rfl⟩
      · obtain ⟨q1, q2⟩ := c2' j (by omega) h2
        rw [if_neg e, if_neg e] at hx ht
        have qw := rat_ne (hwt j h2).1
        have w1 : a r * (a r + b r) * (S r * V) = a r * ((a r + b r) * (S r * V)) := Nat.mul_assoc _ _ _
        have w2 : (a r + b r) * (S r * V * a r) = a r * ((a r + b r) * (S r * V)) := by rw [← Nat.mul_assoc, Nat.mul_comm _ (a r)]
        have w3 : S r * (a r * V) = S r * V * a r := by rw [Nat.mul_assoc, Nat.mul_comm V]
        have w4 : 1 ≤ S r * V := Nat.mul_pos hs1 hv0
        obtain ⟨q, f1, f2, f3⟩ := mulR_val hb ht (by
            refine Nat.lt_of_le_of_lt (Nat.le_mul_of_pos_right _ w4) ?_
            rw [w1]; omega) (by rw [w3]; exact Nat.lt_of_le_of_lt (Nat.le_mul_of_pos_left _ w4) q2)
        refine ⟨q, f1, ?_⟩
        have qi := rat_ne g1
        have hq : qv q = ((U1 i c * U1 r j : Int) : Rat) / ((t1 i * (U1 r c * w j) : Int) : Rat) := by
          rw [f3, (g3 c (by omega)).1, hwc, Int.mul_one, hQ2r j h2, Rat.intCast_mul, Rat.intCast_mul, Rat.intCast_mul]; grind
        have bq := Bq.of (N := a r * (a r + b r)) (D := S r * V * a r) f2 (fun e => by
            rcases Int.mul_eq_zero.1 e with e | e
            · exact g1 e
            · exact huw j h2 e) hq
          (by rw [Int.natAbs_mul]; exact Nat.mul_le_mul (by have := (g3 c (by omega)).2; rwa [if_pos hc] at this) (hw j h2))
          (by rw [Int.natAbs_mul, Int.natAbs_mul, ← w3]; exact Nat.mul_le_mul g2 (Nat.mul_le_mul hUcb (hwt j h2).2.1))
        obtain ⟨d, d1, d2, d3⟩ := subR_val hx bq (by rw [w1, w2]; omega) q2
        exact ⟨d, d1, d2, by rw [d3, ← hq, f3]; rfl⟩)
    dsimp only
    rw [e3]
    have hQ2 : ∀ i, i ≠ r → ∀ j, Q L2 i j = Q (swL p r L) i j := fun i hi j => by unfold Q; rw [hQ2i i hi]
    have hQ3r : ∀ j, Q L3 r j = Q L2 r j := fun j => by unfold Q; rw [p1]
    have hr0 : ∀ j, j < c → Q L2 r j = 0 := fun j hj => by
      have := hz1 r (Nat.le_refl _) hr j hj
      unfold Q at this ⊢
      rw [o2 j hj]; exact this
    have hQ3l : ∀ i, i < n → i ≠ r → ∀ j, j < c → Q L3 i j = Q (swL p r L) i j := fun i hi hne j hj => by
      rw [← hQ2 i hne]; unfold Q; rw [(p3 i (Nat.zero_le _) hi hne).1 j hj]
    have hQ3g : ∀ i, i < n → i ≠ r → ∀ j, c ≤ j → j < m → Q L3 i j = Q (swL p r L) i j - Q (swL p r L) i c * Q L2 r j := fun i hi hne j h1 h2 => by
      rw [← hQ2 i hne, ← hQ2 i hne]; exact (p3 i (Nat.zero_le _) hi hne).2 j h1 h2
    have hQ3 : ∀ i, i < n → i ≠ r → ∀ j, j < m → Q L3 i j = Q (swL p r L) i j - Q (swL p r L) i c * Q L2 r j := fun i hi hne j hj => by
      by_cases e : j < c
      · rw [hQ3l i hi hne j e, hr0 j e]; grind
      · exact hQ3g i hi hne j (by omega) hj
    have hpl : ∀ l, l < r → (cs ++ [c]).getD l 0 = cs.getD l 0 := fun l hl => by
      rw [List.getD, List.getD, List.getElem?_append_left (by omega)]
    have hpr : (cs ++ [c]).getD r 0 = c := by
      rw [List.getD, List.getElem?_append_right (by omega), hlen, Nat.sub_self]; rfl
    have hvl : ∀ l, l < r → (piv ++ [rAt (L p) c]).getD l z0 = piv.getD l z0 := fun l hl => by
      rw [List.getD, List.getD, List.getElem?_append_left (by omega)]
    have hvr : (piv ++ [rAt (L p) c]).getD r z0 = rAt (L p) c := by
      rw [List.getD, List.getElem?_append_right (by omega), hR, Nat.sub_self]; rfl
    have hln : (piv ++ [rAt (L p) c]).length = r + 1 := by simp [hR]
    have a2 : 1 ≤ a r * a r := Nat.mul_pos ha1 ha1
    have s2 : 1 ≤ S r * a r := Nat.mul_pos hs1 ha1
    refine ⟨_, rfl, ?_, fun _ hne => ?_⟩
    rotate_left
    · have hpr' : p = r := by
        refine Classical.byContradiction fun e => hne ?_
        show qv (rAt (L r) c) = 0
        rw [hps.1 r (Nat.le_refl _) (by omega), qv_z0]
      refine ⟨hln, fun j hj => ?_⟩
      have hsw : ∀ i, swL p r L i = L i := fun i => by rw [hpr', swL_self]
      have hq : ∀ i k, Q (swL p r L) i k = Q L i k := fun i k => by unfold Q; rw [hsw]
      refine ⟨?_, fun i hi hne => by show Q L3 i j = Q L i j - Q L i c * Q L3 r j; rw [hQ3 i hi hne j hj, hQ3r, hq, hq]⟩
      show Q L3 r j = Q L r j / Q L r c
      rw [hQ3r]
      by_cases e : j < c
      · rw [hr0 j e, ← hq, hz1 r (Nat.le_refl _) hr j e]; grind
      · show qv (rAt (L2 r) j) = _
        rw [o3 j (by omega) hj, hpr', swL_self]; rfl
    refine ⟨ok3, by dsimp only; omega, by dsimp only; simp [hlen, hR], ?_, ⟨by dsimp only; omega, ?_, ?_, ?_, ?_⟩, by dsimp only; rw [hln]; omega, by dsimp only; rw [hln]; omega, ?_, ?_⟩
    ·
      dsimp only
      have h1 : RO n m A (Q (swL p r L)) (sgw (if p = r then sw else sw + 1) * prd piv) := by
        by_cases e : p = r
        · rw [if_pos e, e, swL_self]; exact hro
        · rw [if_neg e, sgw_succ]
          have := hro.swap hp hr e
          rw [show - sgw sw * prd piv = -(sgw sw * prd piv) by grind]
          exact this.eq fun _ _ _ _ => rfl
      have h2 : RO n m A (Q L2) (sgw (if p = r then sw else sw + 1) * prd piv * qv (rAt (L p) c)) := by
        refine (h1.scale hr hy0).eq fun i hi j hj => ?_
        unfold ur
        by_cases e : i = r
        · rw [if_pos e, e]
          by_cases e2 : j < c
          · rw [hr0 j e2]
            show Q (swL p r L) r j / qv (rAt (L p) c) = 0
            rw [hz1 r (Nat.le_refl _) hr j e2]; grind
          · exact (o3 j (by omega) hj).symm
        · rw [if_neg e, hQ2 i e]
      have h3 := RO.clear (c := c) h2 hr n (Nat.le_refl _)
      rw [prd_snoc, show ∀ x y z : Rat, x * (y * z) = x * y * z by intros; grind]
      refine h3.eq fun i hi j hj => ?_
      by_cases e : i = r
      · simp only [if_pos e]; rw [e, hQ3r]
      · simp only [if_neg e, if_pos hi]; rw [hQ3 i hi e j hj, hQ2 i e, hQ2 i e]
    · intro x y hxy hy
      dsimp only at hy ⊢
      rw [hln] at hy
      rw [hpl x (by omega)]
      by_cases e : y < r
      · rw [hpl y e]; exact hrf.inc x y hxy e
      · rw [show y = r by omega, hpr]; exact hrf.lt x (by omega)
    · intro x hx
      dsimp only at hx ⊢
      rw [hln] at hx
      by_cases e : x < r
      · rw [hpl x e]; exact Nat.lt_succ_of_lt (hrf.lt x e)
      · rw [show x = r by omega, hpr]; omega
    · intro i hi l hl
      dsimp only at hl ⊢
      rw [hln] at hl
      by_cases e : l < r
      · rw [hpl l e]
        have hlt := hrf.lt l e
        by_cases e2 : i = r
        · rw [e2, hQ3r, hr0 _ hlt, if_neg (by omega)]
        · rw [hQ3l i hi e2 _ hlt]
          show Q L (swF p r i) _ = _
          rw [hrf.unit _ (swF_lt hp hr hi) l e]
          have : (swF p r i = l) = (i = l) := propext (by unfold swF; constructor <;> intro h3 <;> split at * <;> (try split at *) <;> omega)
          simp only [this]
      · rw [show l = r by omega, hpr]
        by_cases e2 : i = r
        · rw [e2, hQ3r, h2rc, if_pos rfl]
        · rw [hQ3g i hi e2 c (Nat.le_refl _) (by omega), h2rc, if_neg e2]; grind
    · intro i h1 h2 j hj
      dsimp only at h1 ⊢
      rw [hln] at h1
      by_cases e : j < c
      · rw [hQ3l i h2 (by omega) j e, hz1 i (by omega) h2 j e]
      · rw [show j = c by omega, hQ3g i h2 (by omega) c (Nat.le_refl _) (by omega), h2rc]; grind
    · dsimp only
      rw [hln]
      refine ⟨fun i j => if i = r then U1 r j else U1 r c * U1 i j - U1 i c * U1 r j, fun i => if i = r then U1 r c else t1 i * U1 r c, T * U1 r c, ⟨fun e => (Int.mul_eq_zero.1 e).elim hT.1 hUc0, by rw [Int.natAbs_mul]; exact Nat.le_trans (Nat.mul_le_mul hT.2.1 hUcb) gs, fun l hl => ?_⟩, fun i hi => ?_⟩
      · by_cases e : l = r
        · simp only [if_pos e]; exact ⟨T, by rw [Int.mul_comm]⟩
        · simp only [if_neg e]
          obtain ⟨q, hq⟩ := hT.2.2 l (by omega)
          refine ⟨q, ?_⟩
          have : t1 l = t l := by show t (swF p r l) = _; rw [show swF p r l = l by unfold swF; rw [if_neg (by omega), if_neg e]]
          rw [this, hq, Int.mul_assoc, Int.mul_assoc, Int.mul_comm q]
      obtain ⟨g1, g2, g3⟩ := hU1 i hi
      by_cases e : i = r
      · simp only [if_pos e]
        refine ⟨hUc0, ?_, fun j hj => ⟨by rw [e, hQ3r, hQ2r j hj], ?_⟩⟩
        · refine Nat.le_trans ?_ gs
          exact Nat.le_trans hUcb (Nat.le_mul_of_pos_left _ hs1)
        · have h5 := ((hU1 r hr).2.2 j hj).2
          split at h5
          · rw [if_pos (by assumption)]; exact Nat.le_trans h5 (Nat.le_trans (Nat.le_trans (Nat.le_mul_of_pos_left _ ha1) (by omega)) ga)
          · rw [if_neg (by assumption)]; exact Nat.le_trans h5 (Nat.le_trans (Nat.le_trans (Nat.le_mul_of_pos_left _ ha1) (by omega)) gb)
      · simp only [if_neg e]
        have qi := rat_ne g1
        refine ⟨fun e => by rcases Int.mul_eq_zero.1 e with e | e <;> contradiction, ?_, fun j hj => ⟨?_, ?_⟩⟩
        · rw [Int.natAbs_mul]; exact Nat.le_trans (Nat.mul_le_mul g2 hUcb) gs
        · have qw := rat_ne (hwt j hj).1
          rw [hQ3 i hi e j hj, (g3 j hj).1, (g3 c (by omega)).1, hwc, Int.mul_one, hQ2r j hj]
          simp only [Rat.intCast_sub, Rat.intCast_mul]
          exact frac_step qi qu qw
        · have h5 := (g3 j hj).2
          have h6 := (g3 c (by omega)).2
          have h7 := ((hU1 r hr).2.2 j hj).2
          rw [if_pos hc] at h6
          have m1 : (U1 r c * U1 i j).natAbs = (U1 r c).natAbs * (U1 i j).natAbs := Int.natAbs_mul _ _
          have m2 : (U1 i c * U1 r j).natAbs = (U1 i c).natAbs * (U1 r j).natAbs := Int.natAbs_mul _ _
          split at h5
          · rw [if_pos (by assumption)] at h7 ⊢
            have n1 := Nat.mul_le_mul hUcb h5
            have n2 := Nat.mul_le_mul h6 h7
            omega
          · rw [if_neg (by assumption)] at h7 ⊢
            have n1 := Nat.mul_le_mul hUcb h5
            have n2 := Nat.mul_le_mul h6 h7
            omega
    · intro l hl
      dsimp only at hl ⊢
      rw [hln] at hl
      by_cases e : l < r
      · rw [hvl l e]; exact hpv l e
      · rw [show l = r by omega, hvr]; exact bpv
theorem EI.col {n m cols c V : Nat} {w : Nat → Int} {A : Mx} {a b S : Nat → Nat} {s : El} (h : EI n m cols c w A a b S s) (hg : Gr n m cols V a b S) (hwt : Wt m cols V w) (hc : c < cols) (hm : cols ≤ m) : ∃ s', colE n m c s = some s' ∧ EI n m cols (c + 1) w A a b S s' := by
  obtain ⟨s', h1, h2, _⟩ := h.colS (fun h1 h2 => hg.at h1 h2) hwt hc hm
  exact ⟨s', h1, h2⟩
theorem EI.go {n m cols V : Nat} {w : Nat → Int} {A : Mx} {a b S : Nat → Nat} (hg : Gr n m cols V a b S) (hwt : Wt m cols V w) (hm : cols ≤ m) : ∀ (f c : Nat) (s : El), c + f = cols → EI n m cols c w A a b S s → ∃ s', elimF n m f c s = some s' ∧ EI n m cols cols w A a b S s'
  | 0, c, s, hc, h => ⟨s, rfl, by rw [show cols = c by omega] at h ⊢; exact h⟩
  | f + 1, c, s, hc, h => by
    obtain ⟨s1, h1, h2⟩ := h.col hg hwt (by omega) hm
    obtain ⟨s2, h3, h4⟩ := EI.go hg hwt hm f (c + 1) s1 (by omega) h2
    exact ⟨s2, by rw [elimF, h1]; exact h3, h4⟩
theorem elim_val {n m cols V : Nat} {w : Nat → Int} {L : Rows} {a b S : Nat → Nat} (hok : OkL n m L) (hg : Gr n m cols V a b S) (hwt : Wt m cols V w) (hm : cols ≤ m) (U : Nat → Nat → Int) (t : Nat → Int)
    (hU : ∀ i, i < n → t i ≠ 0 ∧ (t i).natAbs ≤ S 0 ∧ ∀ j, j < m → Q L i j = (U i j : Rat) / ((t i * w j : Int) : Rat) ∧ (U i j).natAbs ≤ (if j < cols then a 0 else b 0)) :
    ∃ s, elim n m cols L = some s ∧ EI n m cols cols w (Q L) a b S s :=
  EI.go hg hwt hm cols 0 _ (by omega) ⟨hok, Nat.zero_le _, rfl, by simpa [sgw, prd] using RO.refl, ⟨Nat.zero_le _, fun _ _ _ h => absurd h (by simp), fun _ h => absurd h (by simp), fun _ _ _ h => absurd h (by simp), fun _ _ _ _ h => absurd h (by omega)⟩, hg.a0, hg.s0, ⟨U, t, 1, ⟨by decide, hg.s0, fun _ h => absurd h (by simp)⟩, hU⟩, fun _ h => absurd h (by simp)⟩
end Go.Proofs.YtepcnphmfbbhiaaGreatDoor
