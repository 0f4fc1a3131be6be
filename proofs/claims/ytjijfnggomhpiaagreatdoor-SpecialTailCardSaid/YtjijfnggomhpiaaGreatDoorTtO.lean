/- Part of the proof of a statement about the special functions. -/
import Derived.Test.YtjijfnggomhpiaaGreatDoorIsO
set_option linter.all false
namespace Go.Proofs.YtjijfnggomhpiaaGreatDoor
def CelC (c : Nat) (E : Nat → Option (Int × Int)) (f : Int) : Prop := ∃ r, E 25 = some r ∧ f * tenI (25 - c) < r.1 ∧ (r.2 < (f + 1) * tenI (25 - c) ∨ (f + 1 = tenI c ∧ r.2 ≤ tenI 25 ∧ ∀ k r', E k = some r' → r'.1 < tenI k)) ∧ f.natAbs ≤ 200000000000000000000
theorem celC_find {E : Nat → Option (Int × Int)} (hN : Nst E) {c : Nat} (hc : c ≤ 12) {f : Int} (h : CelC c E f) : FindR c (fun k => E (c + k)) f (f + 1) := by
  obtain ⟨r, hr, h1, h2, h3⟩ := h
  obtain ⟨r', hr', hle⟩ := hN.tot 25 (by omega) (by omega)
  rw [hr] at hr'; cases hr'
  have hT := ten_p (25 - c)
  have hT2 : tenI (25 - c) ≤ 10 ^ 25 := by
    have : (10 : Nat) ^ (25 - c) ≤ 10 ^ 25 := Nat.pow_le_pow_right (by omega) (by omega)
    unfold tenI; exact_mod_cast this
  have e25 : tenI 25 = tenI c * tenI (25 - c) := by rw [← ten_add]; congr 1; omega
  have h4 : r.2 ≤ (f + 1) * tenI (25 - c) := by
    rcases h2 with h2 | ⟨h2, h5, _⟩
    · omega
    · rw [h2, ← e25]; exact h5
  have m1 : -(200000000000000000000 * 10 ^ 25 : Int) ≤ f * tenI (25 - c) := by
    rcases Int.le_total 0 f with g | g
    · have := Int.mul_nonneg g (Int.le_of_lt hT); omega
    · have := Int.mul_le_mul_of_nonpos_left (a := f) (b := 10 ^ 25) (c := tenI (25 - c)) g hT2
      have : -200000000000000000000 ≤ f := by omega
      have := Int.mul_le_mul_of_nonneg_right this (show (0 : Int) ≤ 10 ^ 25 by decide)
      omega
  have m2 : (f + 1) * tenI (25 - c) ≤ 200000000000000000001 * 10 ^ 25 := by
    rcases Int.le_total 0 (f + 1) with g | g
    · have := Int.mul_le_mul_of_nonneg_left hT2 g
      have : f + 1 ≤ 200000000000000000001 := by omega
      have := Int.mul_le_mul_of_nonneg_right this (show (0 : Int) ≤ 10 ^ 25 by decide)
      omega
    · have := Int.mul_le_mul_of_nonneg_right g (Int.le_of_lt hT); omega
  have k := find_all hN (t := 25) (c := c) (by omega) (by omega) (by omega) (by omega) hr (by omega) (by omega) h1 h4 (pl := c) (Nat.le_refl _) (by
    intro r' hr'
    rcases h2 with h2 | ⟨h2, _, h5⟩
    · obtain ⟨r2, hr2, hle2⟩ := hN.tot (c + 40) (by omega) (by omega)
      rw [hr'] at hr2; cases hr2
      have i := hN.inc 25 (c + 40 - 25) r r' (by omega) (by omega) (by omega) hr (by rw [show 25 + (c + 40 - 25) = c + 40 by omega]; exact hr')
      have iu : r'.2 ≤ r.2 * tenI (c + 40 - 25) := i.hi
      have := Int.mul_lt_mul_of_pos_right h2 (ten_p (c + 40 - 25))
      omega
    · have h6 := h5 _ r' hr'
      have e : tenI (c + 40) = (f + 1) * tenI (25 - c) * tenI (c + 40 - 25) := by
        rw [h2, ← ten_add, ← ten_add]; congr 1; omega
      rw [← e]; exact h6)
  rw [Nat.sub_self, show tenI 0 = 1 from rfl, Int.ediv_one] at k
  exact k
theorem frR_cel {k n d fr c v : Nat} (hk : 0 < k) (hc : c ≤ 12) (h1 : 0 < fr) (h20 : fr ≤ 20) (hn : 0 < n) (hn9 : n ≤ 10 ^ 14) (hd : 0 < d) (hd9 : d < 10 ^ 13) (h100 : n ≤ 100 * d) (hkk : ((k : Nat) : Int) = tenI (25 - c)) (hv : v ≤ 100000000000000000000)
    (h : FrR S25 25 k n d fr v) : CelC c (fun k => tlP (10 ^ k) k n d fr) (tenI c - v - 1) := by
  have eS : (10 : Nat) ^ 25 = S25 := by decide
  obtain ⟨r, hr, _⟩ := (nst_chi h1 h20 hn hn9 hd hd9 h100).tot 25 (by omega) (by omega)
  simp only [eS] at hr
  obtain ⟨a1, a2⟩ := h r hr
  have e25 : ((S25 : Nat) : Int) = tenI c * tenI (25 - c) := by
    rw [← ten_add, show c + (25 - c) = 25 by omega]; decide
  have ten12 : tenI c ≤ 10 ^ 12 := by
    have : (10 : Nat) ^ c ≤ 10 ^ 12 := Nat.pow_le_pow_right (by omega) hc
    unfold tenI; exact_mod_cast this
  have tp := ten_p c
  have e1 : ((v * k : Nat) : Int) = v * tenI (25 - c) := by rw [← hkk]; exact Int.natCast_mul _ _
  have e2 : (((v + 1) * k : Nat) : Int) = (v + 1) * tenI (25 - c) := by rw [← hkk]; exact_mod_cast rfl
  rw [e1] at a1
  rw [e2] at a2
  refine ⟨r, ?_, ?_, ?_, by omega⟩
  · show tlP (10 ^ 25) 25 n d fr = _
    rw [eS]; exact hr
  · rw [Int.sub_mul, Int.sub_mul, Int.one_mul, ← e25]
    rw [Int.add_mul, Int.one_mul] at a2
    omega
  · rcases a1 with a1 | ⟨a1, a3⟩
    · left
      rw [Int.sub_add_cancel, Int.sub_mul, ← e25]
      omega
    · right
      refine ⟨by omega, ?_, fun k r' h' => tl_lt1 (Nat.pow_pos (by decide)) hn h'⟩
      rw [show tenI 25 = ((S25 : Nat) : Int) from by decide]; exact a3
def exH (n d2 : Nat) (K : Nat → Bool) : Bool := fz (Nat.mul n 10000000000000000000000000) fun u => expK 10000000000000000000000000 9999999999999999999999999 (fun e1 e2 =>
    cond (Nat.ble 1 e1) (stK 100000000000000000 (Nat.div 100000000000000000000000000000000000000000000000000 e2) (Nat.div (Nat.add 100000000000000000000000000000000000000000000000000 (Nat.pred e1)) e1) K) false)
  (Nat.div u d2) (Nat.div (Nat.add u (Nat.pred d2)) d2)
theorem exH_ok {n d g a b : Nat} {K : Nat → Bool} (hn : 0 < n) (hd : 0 < d) (hg : 0 < g) (ha : n = a * g) (hb : d = b * g) (ha9 : a < 10 ^ 90) (hb9 : b < 10 ^ 90) (h : exH n d K = true) : ∃ f : Nat, K f = true ∧ (f ≤ 100000000 → CelC 8 (fun k => (exP (10 ^ k) (-(a : Int)) b).map zP) f) := by
  unfold exH at h
  rw [fz_eq] at h
  have eS : (10 : Nat) ^ 25 = 10000000000000000000000000 := by decide
  rw [show (Nat.div (Nat.mul n 10000000000000000000000000) d) = (ofP S25 n d).1 by rw [of_eq hd], show (Nat.div (Nat.add (Nat.mul n 10000000000000000000000000) (Nat.pred d)) d) = (ofP S25 n d).2 by rw [of_eq hd]] at h
  obtain ⟨e, he, h⟩ := expK_ok (by decide) (by decide) h
  have hb0 : 0 < b := by
    rcases Nat.eq_zero_or_pos b with z | z
    · subst z; omega
    · exact z
  have ha0 : 0 < a := by
    rcases Nat.eq_zero_or_pos a with z | z
    · subst z; omega
    · exact z
  have hof : ofP S25 n d = ofP S25 a b := by
    rw [ha, hb]
    unfold ofP
    have e1 : a * g * S25 = a * S25 * g := by ac_rfl
    have e2 : upn (a * S25 * g) (b * g) = upn (a * S25) b := by
      unfold upn
      rw [Nat.mul_mod_mul_right, Nat.mul_div_mul_right _ _ hg]
      have : (a * S25 % b * g = 0) ↔ (a * S25 % b = 0) := ⟨fun h => (Nat.mul_eq_zero.1 h).resolve_right (by omega), fun h => by rw [h, Nat.zero_mul]⟩
      simp only [this]
    rw [e1, Nat.mul_div_mul_right _ _ hg, e2]
  rw [hof] at he
  rcases cond_t h with ⟨h3, h⟩ | ⟨_, h⟩
  · rw [Nat.ble_eq] at h3
    obtain ⟨f, g1, g2, hf⟩ := stK_ok h
    refine ⟨f, hf, fun hf8 => ?_⟩
    have e3 : ovP S25 (1 * S25, 1 * S25) e = (Nat.div 100000000000000000000000000000000000000000000000000 e.2, Nat.div (Nat.add 100000000000000000000000000000000000000000000000000 (Nat.pred e.1)) e.1) := by
      unfold ovP
      rw [upn_eq (by omega)]; rfl
    have e2p : 0 < e.2 := by
      rcases Nat.eq_zero_or_pos e.2 with z | z
      · exfalso
        rw [z] at g1
        have : Nat.div 100000000000000000000000000000000000000000000000000 0 = 0 := rfl
        omega
      · exact z
    refine ⟨zP (ovP S25 (1 * S25, 1 * S25) e), ?_, ?_, Or.inl ?_, by omega⟩
    · show (exP (10 ^ 25) (-(a : Int)) b).map zP = _
      rw [eS]
      unfold exP
      rw [if_pos ⟨by omega, hb9, hb0⟩, show (-(a : Int)).natAbs = a by omega, he, Option.bind_some, if_pos (by omega), if_pos ⟨by omega, e2p⟩]; rfl
    · rw [e3, show tenI (25 - 8) = 100000000000000000 by decide]
      show (f : Int) * 100000000000000000 < ((Nat.div 100000000000000000000000000000000000000000000000000 e.2 : Nat) : Int); omega
    · rw [e3, show tenI (25 - 8) = 100000000000000000 by decide]
      show ((Nat.div (Nat.add 100000000000000000000000000000000000000000000000000 (Nat.pred e.1)) e.1 : Nat) : Int) < ((f : Int) + 1) * 100000000000000000; omega
  · cases h
def tlQ (S S1 k y1 y2 Y2 e1 e2 r1 r2 o1 o2 M z1 z2 Z2 i1 i2 q1 q2 j1 j2 M' : Nat) (f : Nat) : Nat → Nat → Bool :=
  Nat.rec (motive := fun _ => Nat → Nat → Bool) (fun _ _ => true) (fun _ ih fr p => frK S S1 k y1 y2 Y2 e1 e2 r1 r2 o1 o2 fr M fun c => cond (Nat.ble c p) (frK S S1 k z1 z2 Z2 i1 i2 q1 q2 j1 j2 fr M' fun c' => cond (and (Nat.ble c c') (Nat.ble c' 1000000)) (fz (Nat.succ fr) fun fr' => ih fr' c) false) false) f
theorem tlQ_ok {S S1 pl k n d m e y1 y2 Y2 e1 e2 r1 r2 o1 o2 M z1 z2 Z2 i1 i2 q1 q2 j1 j2 M' : Nat} (hS : 10 ^ 7 ≤ S) (hSl : S < 10 ^ 55) (hS1 : S1 = S - 1) (hd : 0 < d) (h100 : n ≤ 100 * d) (h50 : d ≤ 2500 * n) (hM : M ≤ 400) (he : 0 < e) (h100' : m ≤ 100 * e) (h50' : e ≤ 2500 * m) (hM' : M' ≤ 400)
    (hX : XR S pl n d y1 y2 Y2 e1 e2 r1 r2 o1 o2) (hX' : XR S pl m e z1 z2 Z2 i1 i2 q1 q2 j1 j2) : ∀ {f fr p : Nat}, 0 < fr → fr + f ≤ 21 → p ≤ 1000000 → tlQ S S1 k y1 y2 Y2 e1 e2 r1 r2 o1 o2 M z1 z2 Z2 i1 i2 q1 q2 j1 j2 M' f fr p = true →
    ∃ C C' : Nat → Nat, ∀ g, fr ≤ g → g < fr + f → FrR S pl k n d g (C g) ∧ FrR S pl k m e g (C' g) ∧ C g ≤ C' g ∧ C' g ≤ 1000000 ∧ (g = fr → C g ≤ p) ∧ (fr < g → C g ≤ C (g - 1))
  | 0, fr, p, _, _, _, _ => ⟨fun _ => 0, fun _ => 0, fun g h1 h2 => by omega⟩
  | f + 1, fr, p, h0, hf, hp, h => by
    have h' : frK S S1 k y1 y2 Y2 e1 e2 r1 r2 o1 o2 fr M (fun c => cond (Nat.ble c p) (frK S S1 k z1 z2 Z2 i1 i2 q1 q2 j1 j2 fr M' fun c' => cond (and (Nat.ble c c') (Nat.ble c' 1000000)) (fz (Nat.succ fr) fun fr' => tlQ S S1 k y1 y2 Y2 e1 e2 r1 r2 o1 o2 M z1 z2 Z2 i1 i2 q1 q2 j1 j2 M' f fr' c) false) false) = true := h
    obtain ⟨c, hc, hF⟩ := frK_ok hS hSl hS1 h0 (by omega) hd h100 h50 hX hM h'
    rcases cond_t hc with ⟨hb, hc⟩ | ⟨_, hc⟩
    · rw [Nat.ble_eq] at hb
      obtain ⟨c', hc', hF'⟩ := frK_ok hS hSl hS1 h0 (by omega) he h100' h50' hX' hM' hc
      rcases cond_t hc' with ⟨hb', hc'⟩ | ⟨_, hc'⟩
      · simp only [Bool.and_eq_true, Nat.ble_eq] at hb'
        rw [fz_eq] at hc'
        obtain ⟨C, C', hC⟩ := tlQ_ok hS hSl hS1 hd h100 h50 hM he h100' h50' hM' hX hX' (fr := fr + 1) (p := c) (by omega) (by omega) (by omega) hc'
        refine ⟨fun g => if g = fr then c else C g, fun g => if g = fr then c' else C' g, fun g h1 h2 => ?_⟩
        by_cases eg : g = fr
        · subst eg
          simp only [if_true]
          exact ⟨hF, hF', hb'.1, hb'.2, fun _ => hb, fun hl => by omega⟩
        · obtain ⟨k1, k2, k3, k4, k5, k6⟩ := hC g (by omega) (by omega)
          simp only [if_neg eg]
          refine ⟨k1, k2, k3, k4, fun e => absurd e eg, fun hl => ?_⟩
          by_cases eg2 : g - 1 = fr
          · rw [if_pos eg2]; exact k5 (by omega)
          · rw [if_neg eg2]; exact k6 (by omega)
      · cases hc'
    · cases hc
def M25 (n d : Nat) : Nat := Nat.add 27 (Nat.div (Nat.mul n 21) (Nat.mul 10 d))
def ttCk (p1 p2 n d : Nat) : Bool := xK 10000000000000000000000000 9999999999999999999999999 p1 p2 (fun y1 y2 Y2 e1 e2 r1 r2 o1 o2 => fz (M25 n d) fun M => fz (Nat.add (Nat.mul 7 n) d) fun n' => fz (Nat.mul 7 d) fun d' => xK 10000000000000000000000000 9999999999999999999999999 p1 p2 (fun z1 z2 Z2 i1 i2 q1 q2 j1 j2 => fz (M25 n' d') fun M' =>
   cond (and (Nat.ble M 400) (Nat.ble M' 400)) (cond (frK 10000000000000000000000000 9999999999999999999999999 100000000000000000 y1 y2 Y2 e1 e2 r1 r2 o1 o2 2 M fun c => exH n (Nat.mul 2 d) fun g => Nat.beq (Nat.add g (Nat.succ c)) 100000000) (tlQ 10000000000000000000000000 9999999999999999999999999 10000000000000000000 y1 y2 Y2 e1 e2 r1 r2 o1 o2 M z1 z2 Z2 i1 i2 q1 q2 j1 j2 M' 20 1 1000000) false) false) n' d') n d
structure TtR (n d : Nat) : Prop where
  two : ∃ g : Nat, g ≤ 100000000 ∧ CelC 8 (fun k => tlP (10 ^ k) k n d 2) g ∧ ∀ a b c : Nat, n = a * c → 2 * d = b * c → CelC 8 (fun k => (exP (10 ^ k) (-(a : Int)) b).map zP) g
  all : ∃ C C' : Nat → Nat, ∀ g, 1 ≤ g → g ≤ 20 → FrR S25 25 10000000000000000000 n d g (C g) ∧ FrR S25 25 10000000000000000000 (7 * n + d) (7 * d) g (C' g) ∧ C g ≤ C' g ∧ C' g ≤ 1000000 ∧ (1 < g → C g ≤ C (g - 1))
theorem ttCk_ok {n d : Nat} (hn : 0 < n) (hn9 : n ≤ 10 ^ 12) (hd : 0 < d) (hd9 : d < 10 ^ 12) (h36 : n ≤ 36 * d) (h50 : d ≤ 2500 * n) (h : ttCk pqN.1 pqN.2 n d = true) : TtR n d := by
  have h100 : n ≤ 100 * d := by omega
  obtain ⟨y1, y2, Y2, e1, e2, r1, r2, o1, o2, hX, h⟩ := xK_ok (pl := 25) (by decide) (by decide) hd pq_root h
  rw [fz_eq, fz_eq, fz_eq] at h
  obtain ⟨z1, z2, Z2, i1, i2, q1, q2, j1, j2, hX', h⟩ := xK_ok (pl := 25) (by decide) (by decide) (show 0 < Nat.mul 7 d by show 0 < 7 * d; omega) pq_root h
  rw [fz_eq] at h
  rcases cond_t h with ⟨hM, h⟩ | ⟨_, h⟩
  · simp only [Bool.and_eq_true, Nat.ble_eq] at hM
    rcases cond_t h with ⟨h2, h⟩ | ⟨_, h⟩
    · constructor
      · obtain ⟨c, hc, hF⟩ := frK_ok (by decide) (by decide) (by decide) (by decide) (by decide) hd h100 h50 hX hM.1 h2
        have key : ∀ a b g : Nat, n = a * g → 2 * d = b * g → ∃ f : Nat, Nat.beq (Nat.add f (Nat.succ c)) 100000000 = true ∧ (f ≤ 100000000 → CelC 8 (fun k => (exP (10 ^ k) (-(a : Int)) b).map zP) f) := by
          intro a b g ha hb
          have hg : 0 < g := by
            rcases Nat.eq_zero_or_pos g with z | z
            · subst z; omega
            · exact z
          refine exH_ok hn (by show 0 < 2 * d; omega) hg ha hb ?_ ?_ hc
          · have : a ≤ n := by rw [ha]; exact Nat.le_mul_of_pos_right _ hg
            omega
          · have : b ≤ 2 * d := by rw [hb]; exact Nat.le_mul_of_pos_right _ hg
            omega
        have fix : ∀ f : Nat, Nat.beq (Nat.add f (Nat.succ c)) 100000000 = true → f + (c + 1) = 100000000 := fun f hf => Nat.eq_of_beq_eq_true hf
        obtain ⟨f0, hf0, _⟩ := key n (2 * d) 1 (by omega) (by omega)
        have x0 := fix f0 hf0
        refine ⟨f0, by omega, ?_, fun a b g ha hb => ?_⟩
        · have := frR_cel (c := 8) (by decide) (by decide) (by decide) (by decide) hn (by omega) hd (by omega) h100 (by decide) (by omega) hF
          rw [show tenI 8 - (c : Int) - 1 = (f0 : Int) by rw [show tenI 8 = 100000000 by decide]; omega] at this
          exact this
        · obtain ⟨f, hf, hC⟩ := key a b g ha hb
          have x := fix f hf
          have e : f = f0 := by omega
          subst e
          exact hC (by omega)
      · have e7 : Nat.add (Nat.mul 7 n) d = 7 * n + d := rfl
        have e8 : Nat.mul 7 d = 7 * d := rfl
        rw [e7, e8] at hX'
        obtain ⟨C, C', hC⟩ := tlQ_ok (by decide) (by decide) (by decide) hd h100 h50 hM.1 (by omega) (by omega) (by omega) hM.2 hX hX' (by decide) (by decide) (by decide) h
        refine ⟨C, C', fun g h1 h2 => ?_⟩
        obtain ⟨k1, k2, k3, k4, _, k6⟩ := hC g (by omega) (by omega)
        exact ⟨k1, k2, k3, k4, k6⟩
    · cases h
  · cases h
structure TsR (n d : Nat) : Prop where
  ex : ∃ g c : Nat, g ≤ 50000000 ∧ c ≤ 100000000 ∧ 2 * g ≤ c + 1 ∧ c ≤ 2 * g + 2 ∧ CelC 8 (fun k => nrP (10 ^ k) k (n : Int) d) (50000000 + g) ∧ CelC 8 (fun k => tlP (10 ^ k) k (n * n) (d * d) 1) (100000000 - c - 1)
def ttRow (d lo m : Nat) : Bool := allN (fun i => fz (Nat.add lo i) fun n => cond (Nat.beq (Nat.gcd n d) 1) (ttCk 17724538509055160272981674 17724538509055160272981675 n d) true) m
theorem ttRow_ok {d lo m n : Nat} (h : ttRow d lo m = true) (hl : lo < n) (hh : n ≤ lo + m) (hd : 0 < d) (hd50 : d ≤ 50) (h36 : n ≤ 36 * d) (hg : Nat.gcd n d = 1) : TtR n d := by
  unfold ttRow at h
  have h1 := allN_ok h (n - lo) (by omega) (by omega)
  rw [fz_eq, show Nat.add lo (n - lo) = n from by show lo + (n - lo) = n; omega] at h1
  rcases cond_t h1 with ⟨_, h2⟩ | ⟨h2, _⟩
  · exact ttCk_ok (by omega) (by omega) hd (by omega) h36 (by omega) h2
  · rw [hg] at h2; cases h2
end Go.Proofs.YtjijfnggomhpiaaGreatDoor
