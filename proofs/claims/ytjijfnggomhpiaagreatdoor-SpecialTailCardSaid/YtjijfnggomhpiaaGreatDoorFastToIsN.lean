/- Part of the proof of a statement about the special functions. -/
import Derived.Test.YtjijfnggomhpiaaGreatDoorSp11ToLaw1
import Derived.Test.YtjijfnggomhpiaaGreatDoorIsAToIsL
set_option linter.all false
namespace Go.Proofs.YtjijfnggomhpiaaGreatDoor
open Go Go.Eng Go.RowKit
def fz (v : Nat) (k : Nat → Bool) : Bool := Nat.rec (motive := fun _ => Bool) (k 0) (fun m _ => k (Nat.succ m)) v
theorem fz_eq (v : Nat) (k : Nat → Bool) : fz v k = k v := by cases v <;> rfl
def bdK (a b : Nat) : Bool := and (Nat.ble a 99999999999999999999999999999999999999999999999999999999999999999999999999999999999999999999999) (Nat.ble b 99999999999999999999999999999999999999999999999999999999999999999999999999999999999999999999999)
theorem bdK_ok {a b : Nat} (h : bdK a b = true) : bdB (a, b) = true := by
  unfold bdK at h
  simp only [Bool.and_eq_true, Nat.ble_eq] at h
  unfold bdB
  simp only [Bool.and_eq_true, decide_eq_true_eq]
  omega
theorem cond_t {c x y : Bool} : cond c x y = true → (c = true ∧ x = true) ∨ (c = false ∧ y = true) := by cases c <;> simp
theorem upn_eq {a b : Nat} (hb : 0 < b) : upn a b = (a + (b - 1)) / b := by
  unfold upn
  have h1 := Nat.div_add_mod a b
  have h2 := Nat.mod_lt a hb
  split
  · rename_i h
    rw [h, Nat.add_zero] at h1
    symm
    rw [Nat.div_eq_iff hb]
    rw [Nat.mul_comm]
    omega
  · rename_i h
    symm
    rw [Nat.div_eq_iff hb, Nat.add_mul, Nat.mul_comm (a / b) b]
    omega
def sumK (g h : Nat → Nat → Nat) (K : Nat → Nat → Bool) (f : Nat) : Nat → Nat → Nat → Nat → Nat → Nat → Bool :=
  Nat.rec (motive := fun _ => Nat → Nat → Nat → Nat → Nat → Nat → Bool) (fun _ _ _ _ _ _ => false)
    (fun _ ih n t1 t2 a1 a2 l => cond (bdK t1 t2) (cond (and (Nat.ble t2 2) (and (Nat.ble 2 n) (Nat.ble (Nat.mul t2 2) (Nat.add l 2))))
      (K (Nat.add a1 t1) (Nat.add (Nat.add a2 t2) (Nat.add t2 4)))
      (fz (g n t1) fun u1 => fz (h n t2) fun u2 => fz (Nat.add a1 t1) fun c1 => fz (Nat.add a2 t2) fun c2 => fz (Nat.succ n) fun n' => ih n' u1 u2 c1 c2 t2)) false) f
theorem sumK_ok {nx : Nat → N2 → N2} {g h : Nat → Nat → Nat} {K : Nat → Nat → Bool} (hg : ∀ n t, 1 ≤ n → nx n t = (g n t.1, h n t.2)) : ∀ {f F n t1 t2 a1 a2 l : Nat}, f ≤ F → 1 ≤ n → sumK g h K f n t1 t2 a1 a2 l = true → ∃ r, sumF nx F n (t1, t2) (a1, a2) l = some r ∧ K r.1 r.2 = true
  | 0, _, _, _, _, _, _, _, _, _, hk => by cases hk
  | f + 1, F, n, t1, t2, a1, a2, l, hF, hn, hk => by
    obtain ⟨G, rfl⟩ : ∃ G, F = G + 1 := ⟨F - 1, by omega⟩
    change cond _ (cond _ _ _) false = true at hk
    rcases cond_t hk with ⟨hb, hk⟩ | ⟨_, hk⟩
    · unfold sumF
      rw [if_pos (bdK_ok hb)]
      rcases cond_t hk with ⟨hs, hk⟩ | ⟨hs, hk⟩
      · simp only [Bool.and_eq_true, Nat.ble_eq] at hs
        rw [if_pos ⟨hs.2.1, hs.1, hs.2.2⟩]
        exact ⟨_, rfl, hk⟩
      · have hs' : ¬ (2 ≤ n ∧ t2 ≤ 2 ∧ t2 * 2 ≤ l + 2) := fun hc => by
          have : and (Nat.ble t2 2) (and (Nat.ble 2 n) (Nat.ble (Nat.mul t2 2) (Nat.add l 2))) = true := by
            simp only [Bool.and_eq_true, Nat.ble_eq]; exact ⟨hc.2.1, hc.1, hc.2.2⟩
          rw [this] at hs; cases hs
        rw [if_neg hs', hg n _ hn]
        rw [fz_eq, fz_eq, fz_eq, fz_eq, fz_eq] at hk
        have hk' : sumK g h K f (n + 1) (g n t1) (h n t2) (a1 + t1) (a2 + t2) t2 = true := hk
        exact sumK_ok hg (by omega) (by omega) hk'
    · cases hk
theorem sumK_p {nx : Nat → N2 → N2} {g h : Nat → Nat → Nat} {K : Nat → Nat → Bool} {f t1 t2 : Nat} (hg : ∀ n t, 1 ≤ n → nx n t = (g n t.1, h n t.2)) (hf : f ≤ 1000) (hk : sumK g h K f 1 t1 t2 0 0 0 = true) : ∃ r, sumP nx (t1, t2) = some r ∧ K r.1 r.2 = true :=
  sumK_ok hg hf (Nat.le_refl 1) hk
def sqK (S S1 : Nat) (K : Nat → Nat → Bool) (h : Nat) : Nat → Nat → Bool :=
  Nat.rec (motive := fun _ => Nat → Nat → Bool) (fun a b => cond (bdK a b) (K a b) false) (fun _ ih a b => cond (bdK a b) (fz (Nat.div (Nat.mul a a) S) fun u => fz (Nat.div (Nat.add (Nat.mul b b) S1) S) fun v => ih u v) false) h
theorem sqK_ok {S S1 : Nat} {K : Nat → Nat → Bool} (hS : 0 < S) (h1 : S1 = S - 1) : ∀ {h a b : Nat}, sqK S S1 K h a b = true → ∃ r, sqF S h (a, b) = some r ∧ K r.1 r.2 = true
  | 0, a, b, hk => by
    change cond _ _ _ = true at hk
    rcases cond_t hk with ⟨hb, hk⟩ | ⟨_, hk⟩
    · unfold sqF; rw [if_pos (bdK_ok hb)]; exact ⟨_, rfl, hk⟩
    · cases hk
  | h + 1, a, b, hk => by
    change cond _ _ _ = true at hk
    rcases cond_t hk with ⟨hb, hk⟩ | ⟨_, hk⟩
    · unfold sqF; rw [if_pos (bdK_ok hb)]
      rw [fz_eq, fz_eq] at hk
      have hk' : sqK S S1 K h (Nat.div (Nat.mul a a) S) (Nat.div (Nat.add (Nat.mul b b) S1) S) = true := hk
      have h2 := sqK_ok hS h1 hk'
      rw [show tmP S (a, b) (a, b) = (Nat.div (Nat.mul a a) S, Nat.div (Nat.add (Nat.mul b b) S1) S) by unfold tmP; rw [upn_eq hS, h1]; rfl]
      exact h2
    · cases hk
def halfK (S : Nat) (K : Nat → Nat → Nat → Bool) (f : Nat) : Nat → Nat → Nat → Bool :=
  Nat.rec (motive := fun _ => Nat → Nat → Nat → Bool) (fun _ _ _ => false) (fun _ ih a b h => cond (Nat.ble (Nat.mul b 2) S) (K a b h) (fz (Nat.div a 2) fun u => fz (Nat.div (Nat.add b 1) 2) fun v => fz (Nat.succ h) fun i => ih u v i)) f
theorem halfK_ok {S : Nat} {K : Nat → Nat → Nat → Bool} : ∀ {f F a b h : Nat}, f ≤ F → halfK S K f a b h = true → ∃ p, halfF S F (a, b) h = some p ∧ K p.1.1 p.1.2 p.2 = true
  | 0, _, _, _, _, _, hk => by cases hk
  | f + 1, F, a, b, h, hF, hk => by
    obtain ⟨G, rfl⟩ : ∃ G, F = G + 1 := ⟨F - 1, by omega⟩
    change cond _ _ _ = true at hk
    unfold halfF
    rcases cond_t hk with ⟨hb, hk⟩ | ⟨hb, hk⟩
    · have : b * 2 ≤ S := by simpa using hb
      rw [if_neg (by simp only; omega)]; exact ⟨_, rfl, hk⟩
    · have : ¬ b * 2 ≤ S := fun hc => by rw [show Nat.ble (Nat.mul b 2) S = true from Nat.ble_eq_true_of_le hc] at hb; cases hb
      rw [if_pos (by simp only; omega)]
      rw [fz_eq, fz_eq, fz_eq] at hk
      have hk' : halfK S K f (Nat.div a 2) (Nat.div (Nat.add b 1) 2) (h + 1) = true := hk
      have h2 := halfK_ok (F := G) (by omega) hk'
      rw [show byP (a, b) 1 2 = (Nat.div a 2, Nat.div (Nat.add b 1) 2) by unfold byP; rw [upn_eq (by decide), Nat.mul_one, Nat.mul_one]; rfl]
      exact h2
def expK (S S1 : Nat) (K : Nat → Nat → Bool) (a b : Nat) : Bool :=
  cond (bdK a b) (halfK S (fun y1 y2 h => sumK (fun n t => Nat.div (Nat.div (Nat.mul t y1) S) n) (fun n t => Nat.div (Nat.add (Nat.div (Nat.add (Nat.mul t y2) S1) S) (Nat.pred n)) n) (sqK S S1 K h) 100 1 S S 0 0 0) 60 a b 0) false
theorem expK_ok {S S1 a b : Nat} {K : Nat → Nat → Bool} (hS : 0 < S) (h1 : S1 = S - 1) (hk : expK S S1 K a b = true) : ∃ r, expP S (a, b) = some r ∧ K r.1 r.2 = true := by
  unfold expK at hk
  rcases cond_t hk with ⟨hb, hk⟩ | ⟨_, hk⟩
  · obtain ⟨p, hp, hk⟩ := halfK_ok (F := 200) (by decide) hk
    obtain ⟨s, hs, hk⟩ := sumK_p (nx := expN S p.1) (fun n t hn => by
      unfold expN byP tmP
      simp only [Nat.mul_one]
      rw [upn_eq hS, upn_eq (by omega), h1]; rfl) (by decide) hk
    obtain ⟨r, hr, hk⟩ := sqK_ok hS h1 hk
    refine ⟨r, ?_, hk⟩
    unfold expP
    rw [if_pos (bdK_ok hb), hp, Option.bind_some, Nat.one_mul, hs, Option.bind_some]
    exact hr
  · cases hk
end Go.Proofs.YtjijfnggomhpiaaGreatDoor
namespace Go.Proofs.YtjijfnggomhpiaaGreatDoor
open Go Go.Eng Go.RowKit
def allN (ck : Nat → Bool) (n : Nat) : Bool := Nat.rec (motive := fun _ => Bool) true (fun m ih => cond (ck (Nat.succ m)) ih false) n
theorem allN_ok {ck : Nat → Bool} : ∀ {n : Nat}, allN ck n = true → ∀ i, 1 ≤ i → i ≤ n → ck i = true
  | 0, _, i, h1, h2 => by omega
  | n + 1, h, i, h1, h2 => by
    change cond _ _ _ = true at h
    rcases cond_t h with ⟨h3, h⟩ | ⟨_, h⟩
    · by_cases e : i = n + 1
      · subst e; exact h3
      · have h' : allN ck n = true := h
        exact allN_ok h' i h1 (by omega)
    · cases h
abbrev S25 : Nat := 10000000000000000000000000
theorem of_eq {S N d : Nat} (hd : 0 < d) : ofP S N d = (Nat.div (Nat.mul N S) d, Nat.div (Nat.add (Nat.mul N S) (Nat.pred d)) d) := by unfold ofP; rw [upn_eq hd]; rfl
end Go.Proofs.YtjijfnggomhpiaaGreatDoor
namespace Go.Proofs.YtjijfnggomhpiaaGreatDoor
open Go Go.Eng Go.RowKit
def hnK (S S1 c1 c2 : Nat) (K : Nat → Nat → Bool) (n d : Nat) : Bool :=
  fz (Nat.mul n S) fun u => fz (Nat.div u d) fun v1 => fz (Nat.div (Nat.add u (Nat.pred d)) d) fun v2 => fz (Nat.div (Nat.mul v1 v1) S) fun q1 => fz (Nat.div (Nat.add (Nat.mul v2 v2) S1) S) fun q2 =>
  cond (and (bdK n d) (and (bdK v1 v2) (bdK q1 q2))) (sumK (fun n t => Nat.div (Nat.div (Nat.mul t q1) S) (Nat.succ (Nat.mul 2 n))) (fun n t => Nat.div (Nat.add (Nat.div (Nat.add (Nat.mul t q2) S1) S) (Nat.mul 2 n)) (Nat.succ (Nat.mul 2 n)))
    (fun s1 s2 => cond (bdK s1 s2) (expK S S1 (fun e1 e2 => fz (Nat.div (Nat.mul e1 c1) S) fun m1 => fz (Nat.div (Nat.add (Nat.mul e2 c2) S1) S) fun m2 => cond (and (Nat.ble 1 m1) (Nat.ble 1 m2)) (fz (Nat.div (Nat.mul s1 S) m2) fun r1 => fz (Nat.div (Nat.add (Nat.mul s2 S) (Nat.pred m1)) m1) fun r2 => K r1 r2) false) (Nat.div q1 2) (Nat.div (Nat.succ q2) 2)) false) 500 1 v1 v2 0 0 0) false
theorem hnK_ok {S S1 pl n d : Nat} {c : N2} {K : Nat → Nat → Bool} (hS : 0 < S) (h1 : S1 = S - 1) (hc : rootP S (byP (piN pl, piN pl + 1) 2 1) = some c) (hcb : bdB c = true) (hd : 0 < d) (hk : hnK S S1 c.1 c.2 K n d = true) : ∃ r, hnP S pl n d = some r ∧ K r.1 r.2 = true := by
  unfold hnK at hk
  rw [fz_eq, fz_eq, fz_eq, fz_eq, fz_eq] at hk
  rcases cond_t hk with ⟨hb, hk⟩ | ⟨_, hk⟩
  · simp only [Bool.and_eq_true] at hb
    have e1 : (Nat.div (Nat.mul n S) d, Nat.div (Nat.add (Nat.mul n S) (Nat.pred d)) d) = ofP S n d := (of_eq hd).symm
    rw [show Nat.div (Nat.mul n S) d = (ofP S n d).1 from congrArg Prod.fst e1, show Nat.div (Nat.add (Nat.mul n S) (Nat.pred d)) d = (ofP S n d).2 from congrArg Prod.snd e1] at hb hk
    have e2 : (Nat.div (Nat.mul (ofP S n d).1 (ofP S n d).1) S, Nat.div (Nat.add (Nat.mul (ofP S n d).2 (ofP S n d).2) S1) S) = tmP S (ofP S n d) (ofP S n d) := by unfold tmP; rw [upn_eq hS, h1]; rfl
    rw [show Nat.div (Nat.mul (ofP S n d).1 (ofP S n d).1) S = (tmP S (ofP S n d) (ofP S n d)).1 from congrArg Prod.fst e2, show Nat.div (Nat.add (Nat.mul (ofP S n d).2 (ofP S n d).2) S1) S = (tmP S (ofP S n d) (ofP S n d)).2 from congrArg Prod.snd e2] at hb hk
    obtain ⟨s, hs, hk⟩ := sumK_p (nx := hnN S (tmP S (ofP S n d) (ofP S n d))) (fun n t hn => by
      unfold hnN byP
      simp only [Nat.mul_one]
      rw [upn_eq (by omega), show 2 * n + 1 - 1 = 2 * n from rfl]
      unfold tmP
      simp only []
      rw [upn_eq hS, h1]; rfl) (by decide) hk
    rcases cond_t hk with ⟨hsb, hk⟩ | ⟨_, hk⟩
    · obtain ⟨e, he, hk⟩ := expK_ok hS h1 hk
      simp only [fz_eq] at hk
      rcases cond_t hk with ⟨hm, hk⟩ | ⟨_, hk⟩
      · simp only [Bool.and_eq_true, Nat.ble_eq] at hm
        have e3 : (Nat.div (Nat.mul e.1 c.1) S, Nat.div (Nat.add (Nat.mul e.2 c.2) S1) S) = tmP S e c := by unfold tmP; rw [upn_eq hS, h1]; rfl
        rw [show Nat.div (Nat.mul e.1 c.1) S = (tmP S e c).1 from congrArg Prod.fst e3, show Nat.div (Nat.add (Nat.mul e.2 c.2) S1) S = (tmP S e c).2 from congrArg Prod.snd e3] at hm hk
        refine ⟨ovP S s (tmP S e c), ?_, ?_⟩
        · unfold hnP
          rw [if_pos ⟨bdK_ok hb.1, hd, bdK_ok hb.2.1, bdK_ok hb.2.2⟩, hs, Option.bind_some]
          rw [show byP (tmP S (ofP S n d) (ofP S n d)) 1 2 = (Nat.div (tmP S (ofP S n d) (ofP S n d)).1 2, Nat.div (Nat.succ (tmP S (ofP S n d) (ofP S n d)).2) 2) by unfold byP; rw [upn_eq (by decide), Nat.mul_one, Nat.mul_one]; rfl, he, Option.bind_some, hc, Option.bind_some, if_pos ⟨bdK_ok hsb, hcb, by omega, by omega⟩]
        · unfold ovP
          rw [upn_eq (by omega)]
          exact hk
      · cases hk
    · cases hk
  · cases hk
end Go.Proofs.YtjijfnggomhpiaaGreatDoor
namespace Go.Proofs.YtjijfnggomhpiaaGreatDoor
def stK (k a b : Nat) (K : Nat → Bool) : Bool := fz (Nat.div a k) fun f => cond (and (Nat.ble (Nat.succ (Nat.mul f k)) a) (Nat.ble (Nat.succ b) (Nat.mul (Nat.succ f) k))) (K f) false
theorem stK_ok {k a b : Nat} {K : Nat → Bool} (h : stK k a b K = true) : ∃ f, f * k < a ∧ b < (f + 1) * k ∧ K f = true := by
  unfold stK at h
  rw [fz_eq] at h
  rcases cond_t h with ⟨h1, h2⟩ | ⟨_, h2⟩
  · simp only [Bool.and_eq_true, Nat.ble_eq] at h1
    exact ⟨_, h1.1, h1.2, h2⟩
  · cases h2
def stZ (k a b : Nat) (K : Nat → Bool) : Bool := fz (Nat.div a k) fun f => cond (and (cond (Nat.beq f 0) true (Nat.ble (Nat.succ (Nat.mul f k)) a)) (Nat.ble (Nat.succ b) (Nat.mul (Nat.succ f) k))) (K f) false
theorem stZ_ok {k a b : Nat} {K : Nat → Bool} (h : stZ k a b K = true) : ∃ f, (f = 0 ∨ f * k < a) ∧ b < (f + 1) * k ∧ K f = true := by
  unfold stZ at h
  rw [fz_eq] at h
  rcases cond_t h with ⟨h1, h2⟩ | ⟨_, h2⟩
  · simp only [Bool.and_eq_true, Nat.ble_eq] at h1
    refine ⟨_, ?_, h1.2, h2⟩
    rcases cond_t h1.1 with ⟨h3, _⟩ | ⟨_, h3⟩
    · exact Or.inl (Nat.eq_of_beq_eq_true h3)
    · rw [Nat.ble_eq] at h3; exact Or.inr h3
  · cases h2
def tsK (S Y C : Nat) (K : Nat → Nat → Bool) (f : Nat) : Nat → Nat → Bool :=
  Nat.rec (motive := fun _ => Nat → Nat → Bool) (fun t a => cond (Nat.ble t 4) (K (Nat.sub a (Nat.add (Nat.div (Nat.mul a 5200000) S) 10000)) (Nat.add a 5000)) false)
    (fun m ih t a => ih (Nat.add (Nat.div (Nat.mul t Y) (Nat.mul S (Nat.sub C (Nat.mul 2 m)))) 2) (Nat.add a t)) f
theorem tl_hi {S D : Nat} {t y : N2} (hS : 0 < S) (hD : 3 ≤ D) : (byP (tmP S t y) 2 D).2 ≤ t.2 * (2 * y.2) / (S * D) + 2 := by
  have hSD : 0 < S * D := Nat.mul_pos hS (by omega)
  show upn (upn (t.2 * y.2) S * 2) D ≤ _
  rw [upn_le_iff (by omega)]
  have h1 := upn_mul_le (a := t.2 * y.2) hS
  have h2 := Nat.div_add_mod (t.2 * (2 * y.2)) (S * D)
  have h3 := Nat.mod_lt (t.2 * (2 * y.2)) hSD
  have e1 : t.2 * (2 * y.2) = 2 * (t.2 * y.2) := by ac_rfl
  generalize upn (t.2 * y.2) S = u at *
  generalize t.2 * (2 * y.2) / (S * D) = q at *
  generalize t.2 * y.2 = z at *
  have h4 : u * 2 * S ≤ (q + 2) * D * S := by
    have e2 : (q + 2) * D * S = S * D * q + 2 * (S * D) := by rw [Nat.add_mul, Nat.add_mul]; congr 1 <;> ac_rfl
    have e3 : u * 2 * S = 2 * (u * S) := by ac_rfl
    have h5 : S * 3 ≤ S * D := Nat.mul_le_mul_left _ hD
    omega
  exact Nat.le_of_mul_le_mul_right h4 hS
theorem tl_lo {S D : Nat} {t y : N2} (hS : 0 < S) (hD : 3 ≤ D) : t.1 * (2 * y.1) / (S * D) - 1 ≤ (byP (tmP S t y) 2 D).1 := by
  have hSD : 0 < S * D := Nat.mul_pos hS (by omega)
  show _ ≤ t.1 * y.1 / S * 2 / D
  rw [Nat.le_div_iff_mul_le (by omega)]
  have h1 := Nat.div_add_mod (t.1 * y.1) S
  have h1' := Nat.mod_lt (t.1 * y.1) hS
  have h2 : t.1 * (2 * y.1) / (S * D) * (S * D) ≤ t.1 * (2 * y.1) := Nat.div_mul_le_self _ _
  have e1 : t.1 * (2 * y.1) = 2 * (t.1 * y.1) := by ac_rfl
  generalize t.1 * (2 * y.1) / (S * D) = q at *
  generalize t.1 * y.1 / S = u at *
  generalize t.1 * y.1 = z at *
  rcases Nat.eq_zero_or_pos q with e | hq
  · subst e; simp
  have h4 : (q - 1) * D * S < (u * 2 + 1) * S := by
    have e2 : (q - 1) * D * S + S * D = q * (S * D) := by
      obtain ⟨p, hp⟩ : ∃ p, q = p + 1 := ⟨q - 1, by omega⟩
      subst hp
      rw [Nat.add_sub_cancel, Nat.add_mul, Nat.one_mul]; congr 1; ac_rfl
    have e3 : (u * 2 + 1) * S = 2 * (S * u) + S := by rw [Nat.add_mul, Nat.one_mul]; congr 1; ac_rfl
    have h5 : S * 3 ≤ S * D := Nat.mul_le_mul_left _ hD
    omega
  have := Nat.lt_of_mul_lt_mul_right h4
  omega
theorem tl_low {S D : Nat} {t y : N2} (hS : 0 < S) (hD : 3 ≤ D) : t.1 * (2 * y.1) ≤ ((byP (tmP S t y) 2 D).1 + 2) * (S * D) := by
  have h := tl_lo (t := t) (y := y) hS hD
  have hSD : 0 < S * D := Nat.mul_pos hS (by omega)
  have h2 := Nat.div_add_mod (t.1 * (2 * y.1)) (S * D)
  have h3 := Nat.mod_lt (t.1 * (2 * y.1)) hSD
  generalize t.1 * (2 * y.1) / (S * D) = q at *
  have h4 : (q + 1) * (S * D) ≤ ((byP (tmP S t y) 2 D).1 + 2) * (S * D) := Nat.mul_le_mul_right _ (by omega)
  rw [Nat.add_mul, Nat.mul_comm q] at h4
  omega
theorem ts_step {S Q U U' L L' Y1 Y2 k : Nat} (hQ : 0 < Q) (hY : Y2 ≤ Y1 + 4) (hUL : L ≤ U) (h50 : S ≤ Y2 * 2500) (hU : U' = U * Y2 / Q + 2) (hL : L * Y1 ≤ (L' + 2) * Q) (hb : 2 * Y2 ≤ Q ∨ S ≤ U * 256)
    (ih : U * S ≤ L * S + U * (k * 13000) + 8 * S) : U' * S ≤ L' * S + U' * ((k + 1) * 13000) + 8 * S := by
  have u1 : U' * Q ≤ U * Y2 + 2 * Q := by
    rw [hU, Nat.add_mul]; have := Nat.div_mul_le_self (U * Y2) Q; omega
  have u2 : U * Y2 ≤ U' * Q := by
    have := Nat.div_add_mod (U * Y2) Q
    have := Nat.mod_lt (U * Y2) hQ
    rw [hU, Nat.add_mul, Nat.mul_comm (U * Y2 / Q)]; omega
  refine Nat.le_of_mul_le_mul_right ?_ hQ
  have a1 := Nat.mul_le_mul_right S u1
  have a2 := Nat.mul_le_mul_right S hL
  have a3 := Nat.mul_le_mul_right Y2 ih
  have a4 : L * Y2 ≤ L * (Y1 + 4) := Nat.mul_le_mul_left _ hY
  have a4' := Nat.mul_le_mul_right S a4
  have a5 := Nat.mul_le_mul_right ((k + 1) * 13000) u2
  have a6 : 4 * (L * S) ≤ U * Y2 * 10000 := by
    have h1 := Nat.mul_le_mul hUL h50
    have e : U * (Y2 * 2500) = U * Y2 * 2500 := by ac_rfl
    omega
  have a7 : 8 * (S * Y2) ≤ U * Y2 * 2048 + 4 * (Q * S) := by
    rcases hb with h | h
    · have h1 := Nat.mul_le_mul_right S h
      have e : 2 * Y2 * S = 2 * (S * Y2) := by ac_rfl
      omega
    · have h1 := Nat.mul_le_mul_right Y2 h
      have e : U * 256 * Y2 = U * Y2 * 256 := by ac_rfl
      omega
  rw [Nat.add_mul] at a1
  rw [Nat.add_mul, Nat.add_mul] at a3
  rw [Nat.add_mul, Nat.add_mul]
  rw [Nat.mul_add, Nat.add_mul] at a4'
  rw [Nat.add_mul, Nat.add_mul] at a2
  have e1 : U' * S * Q = U' * Q * S := by ac_rfl
  have e2 : U * S * Y2 = U * Y2 * S := by ac_rfl
  have e3 : L * S * Y2 = L * Y2 * S := by ac_rfl
  have e4 : U * (k * 13000) * Y2 = U * Y2 * (k * 13000) := by ac_rfl
  have e5 : U' * ((k + 1) * 13000) * Q = U' * Q * ((k + 1) * 13000) := by ac_rfl
  have e6 : L' * S * Q = L' * Q * S := by ac_rfl
  have e7 : U * Y2 * ((k + 1) * 13000) = U * Y2 * (k * 13000) + U * Y2 * 13000 := by rw [Nat.add_mul, Nat.mul_add, Nat.one_mul]
  have e8 : 8 * S * Y2 = 8 * (S * Y2) := by ac_rfl
  have e9 : 8 * S * Q = 8 * (Q * S) := by ac_rfl
  have e10 : 2 * Q * S = 2 * (Q * S) := by ac_rfl
  have e11 : L * 4 * S = 4 * (L * S) := by ac_rfl
  omega
theorem tsK_ok {S fr : Nat} {y : N2} {Y2 C : Nat} {K : Nat → Nat → Bool} (hS : 10 ^ 5 ≤ S) (h1 : 0 < fr) (h20 : fr ≤ 20) (y50 : y.2 ≤ 50 * S) (vy : Vd y) (hy : y.2 ≤ y.1 + 2) (e2 : Y2 = 2 * y.2) (h50 : S ≤ Y2 * 2500) : ∀ {f k t a : Nat}, k + f ≤ 400 → C = fr + 2 * (k + f) →
    (tmsP (tlN S y fr) (1 * S, 1 * S) k).2 ≤ t → (tmsP (tlN S y fr) (1 * S, 1 * S) k).1 ≤ t → t * S ≤ (tmsP (tlN S y fr) (1 * S, 1 * S) k).1 * S + t * (k * 13000) + 8 * S →
    (totP (tmsP (tlN S y fr) (1 * S, 1 * S)) k).2 ≤ a → a * S ≤ (totP (tmsP (tlN S y fr) (1 * S, 1 * S)) k).1 * S + a * 5200000 + k * (8 * S) →
    tsK S Y2 C K f t a = true → ∃ M b1 b2, M ≤ 400 ∧ (tmsP (tlN S y fr) (1 * S, 1 * S) M).2 ≤ 4 ∧ b1 ≤ (totP (tmsP (tlN S y fr) (1 * S, 1 * S)) M).1 ∧ (totP (tmsP (tlN S y fr) (1 * S, 1 * S)) M).2 ≤ b2 ∧ K (b1 - 5000) (b2 + 5000) = true
  | 0, k, t, a, hf, hC, ht, htl, hd, ha, hA, hk => by
    have hS0 : 0 < S := by omega
    change cond _ _ _ = true at hk
    rcases cond_t hk with ⟨hb, hk⟩ | ⟨_, hk⟩
    · rw [Nat.ble_eq] at hb
      refine ⟨k, a - (a * 5200000 / S + 5000), a, by omega, by omega, ?_, ha, ?_⟩
      · have h2 := Nat.div_add_mod (a * 5200000) S
        have h3 := Nat.mod_lt (a * 5200000) hS0
        have h4 : a * S ≤ ((totP (tmsP (tlN S y fr) (1 * S, 1 * S)) k).1 + (a * 5200000 / S + 5000)) * S := by
          rw [Nat.add_mul, Nat.add_mul, Nat.mul_comm (a * 5200000 / S)]
          have : k * (8 * S) ≤ 400 * (8 * S) := Nat.mul_le_mul_right _ (by omega)
          omega
        have := Nat.le_of_mul_le_mul_right h4 hS0
        omega
      · have e : a - (a * 5200000 / S + 5000) - 5000 = Nat.sub a (Nat.add (Nat.div (Nat.mul a 5200000) S) 10000) := by
          show _ = a - (a * 5200000 / S + 10000)
          omega
        rw [e]; exact hk
    · cases hk
  | f + 1, k, t, a, hf, hC, ht, htl, hd, ha, hA, hk => by
      have hS0 : 0 < S := by omega
      have eD : C - 2 * f = fr + 2 * (k + 1) := by omega
      have hk' : tsK S Y2 C K f (t * Y2 / (S * (C - 2 * f)) + 2) (a + t) = true := hk
      rw [eD] at hk'
      have hQ : 0 < S * (fr + 2 * (k + 1)) := Nat.mul_pos hS0 (by omega)
      have hi' : (tmsP (tlN S y fr) (1 * S, 1 * S) (k + 1)).2 ≤ t * Y2 / (S * (fr + 2 * (k + 1))) + 2 := by
        have := tl_hi (S := S) (D := fr + 2 * (k + 1)) (t := tmsP (tlN S y fr) (1 * S, 1 * S) k) (y := y) hS0 (by omega)
        rw [e2]
        exact Nat.le_trans this (Nat.add_le_add_right (Nat.div_le_div_right (Nat.mul_le_mul_right _ ht)) 2)
      have lo' := tl_low (S := S) (D := fr + 2 * (k + 1)) (t := tmsP (tlN S y fr) (1 * S, 1 * S) k) (y := y) hS0 (by omega)
      have hdich : 2 * Y2 ≤ S * (fr + 2 * (k + 1)) ∨ S ≤ t * 256 := by
        rcases Nat.lt_or_ge (S * (fr + 2 * (k + 1))) (2 * Y2) with g | g
        · right
          have hm : k < 110 := by
            rcases Nat.lt_or_ge k 110 with g3 | g3
            · exact g3
            · have : S * 222 ≤ S * (fr + 2 * (k + 1)) := Nat.mul_le_mul_left _ (by omega)
              omega
          have g3 := grow_big (X := fun k => (tmsP (tlN S y fr) (1 * S, 1 * S) k).2) (A := y.2 * 2) (B := S) (fr := fr) (m := k) hS0 (fun k =>
            by_tm_ge (S := S) (n := 2) (d := fr + 2 * (k + 1)) (t := tmsP (tlN S y fr) (1 * S, 1 * S) k) (q := y) hS0 (by omega)) h1 (by omega) hm (by rw [show fr + 2 * k + 2 = fr + 2 * (k + 1) by omega, Nat.mul_comm (fr + 2 * (k + 1))]; omega)
          have g4 : 1 * S ≤ (tmsP (tlN S y fr) (1 * S, 1 * S) k).2 * 256 := g3
          exact Nat.le_trans (Nat.le_of_eq (Nat.one_mul S).symm) (Nat.le_trans g4 (Nat.mul_le_mul_right 256 ht))
        · exact Or.inl g
      have st := ts_step (k := k) hQ (by omega : Y2 ≤ 2 * y.1 + 4) htl h50 rfl lo' hdich hd
      have hl' : (tmsP (tlN S y fr) (1 * S, 1 * S) (k + 1)).1 ≤ t * Y2 / (S * (fr + 2 * (k + 1))) + 2 := by
        refine Nat.le_trans ?_ hi'
        exact tms_all (nx := tlN S y fr) (t0 := (1 * S, 1 * S)) (P := fun t => t.1 ≤ t.2) (Nat.le_refl _) (fun n u hn hu => by
          exact (Vd.tm hS0 hu vy).by' (by omega)) (k + 1)
      obtain ⟨M, b1, b2, hM, r⟩ := tsK_ok hS h1 h20 y50 vy hy e2 h50 (k := k + 1) (by omega) (by omega) hi' hl' st (by
        show (totP _ k).2 + (tmsP _ _ k).2 ≤ a + t
        omega) (by
        show (a + t) * S ≤ ((totP _ k).1 + (tmsP _ _ k).1) * S + (a + t) * 5200000 + (k + 1) * (8 * S)
        have : t * (k * 13000) ≤ t * 5200000 := Nat.mul_le_mul_left _ (by omega)
        rw [Nat.add_mul, Nat.add_mul, Nat.add_mul, Nat.add_mul]
        omega) hk'
      exact ⟨M, b1, b2, hM, r⟩
theorem fall {X : Nat → N2} {m B : Nat} (hB : 2 ≤ B) (h0 : (X m).2 ≤ B) (hr : ∀ k, m ≤ k → (X (k + 1)).2 * 2 ≤ (X k).2 + 2) : ∀ j, (X (m + j)).2 ≤ B ∧ (totP X (m + j)).2 ≤ (totP X m).2 + j * B
  | 0 => ⟨h0, by simp⟩
  | j + 1 => by
    obtain ⟨h1, h2⟩ := fall hB h0 hr j
    have h3 := hr (m + j) (by omega)
    refine ⟨by rw [show m + (j + 1) = m + j + 1 from rfl]; omega, ?_⟩
    show (totP X (m + j)).2 + (X (m + j)).2 ≤ _
    rw [Nat.add_mul]; omega
theorem tot_diff {X : Nat → N2} (hv : ∀ k, Vd (X k)) {m : Nat} : ∀ j, (totP X (m + j)).1 + (totP X m).2 ≤ (totP X m).1 + (totP X (m + j)).2
  | 0 => Nat.le_refl _
  | j + 1 => by
    have h1 := tot_diff hv (m := m) j
    have h2 := hv (m + j)
    unfold Vd at h2
    show (totP X (m + j)).1 + (X (m + j)).1 + _ ≤ _ + ((totP X (m + j)).2 + (X (m + j)).2)
    omega
theorem ts_bound {X : Nat → N2} {m M : Nat} (hR : SumR X m) (hM : M ≤ 1000) (h4 : (X M).2 ≤ 4) (hv : ∀ k, Vd (X k)) (hrm : ∀ k, m ≤ k → (X (k + 1)).2 * 2 ≤ (X k).2 + 2) (hrM : ∀ k, M ≤ k → (X (k + 1)).2 * 2 ≤ (X k).2 + 2) :
    (totP X M).1 ≤ (resP X m).1 + 5000 ∧ (resP X m).2 ≤ (totP X M).2 + 5000 := by
  have hm := hR.lt
  have hs := hR.stop.1
  show (totP X M).1 ≤ (totP X (m + 1)).1 + 5000 ∧ (totP X (m + 1)).2 + ((X m).2 + 4) ≤ _
  rcases Nat.lt_or_ge m M with g | g
  · have h1 := (tot_mono (X := X) (show m + 1 ≤ M by omega))
    obtain ⟨_, f2⟩ := fall (X := X) (m := m) (B := 2) (by omega) hs hrm (M - m)
    rw [show m + (M - m) = M by omega] at f2
    have h3 := tot_diff hv (m := m + 1) (M - (m + 1))
    rw [show m + 1 + (M - (m + 1)) = M by omega] at h3
    have h5 : (totP X (m + 1)).2 = (totP X m).2 + (X m).2 := rfl
    exact ⟨by omega, by omega⟩
  · have h1 := (tot_mono (X := X) (show M ≤ m + 1 by omega))
    obtain ⟨_, f2⟩ := fall (X := X) (m := M) (B := 4) (by omega) h4 hrM (m + 1 - M)
    rw [show M + (m + 1 - M) = m + 1 by omega] at f2
    exact ⟨by omega, by omega⟩
def tlK (S S1 y1 y2 r : Nat) (K : Nat → Nat → Nat → Nat → Bool) (f : Nat) : Nat → Nat → Nat → Nat → Bool :=
  Nat.rec (motive := fun _ => Nat → Nat → Nat → Nat → Bool) (fun u1 u2 b1 b2 => cond (Nat.beq r 0) (K u1 u2 b1 b2) (K u1 u2 (Nat.div b1 2) (Nat.div (Nat.succ b2) 2)))
    (fun m ih u1 u2 b1 b2 => ih (Nat.div (Nat.mul u1 y1) S) (Nat.div (Nat.add (Nat.mul u2 y2) S1) S) (Nat.div (Nat.mul b1 (Nat.add r (Nat.mul 2 (Nat.succ m)))) 2) (Nat.div (Nat.succ (Nat.mul b2 (Nat.add r (Nat.mul 2 (Nat.succ m))))) 2)) f
theorem tlK_ok {S S1 : Nat} {y : N2} {y1 y2 r : Nat} {K : Nat → Nat → Nat → Nat → Bool} (hS : 0 < S) (hS1 : S1 = S - 1) (hr : r < 2) (e1 : y1 ≤ y.1) (e2 : y.2 ≤ y2) : ∀ {f u1 u2 b1 b2 : Nat} {u b : N2} {q : N2 × N2}, u1 ≤ u.1 → u.2 ≤ u2 → b1 ≤ b.1 → b.2 ≤ b2 →
    tlK S S1 y1 y2 r K f u1 u2 b1 b2 = true → tlL S y (r + 2 * f) u b = some q → ∃ v1 v2 c1 c2, v1 ≤ q.1.1 ∧ q.1.2 ≤ v2 ∧ c1 ≤ q.2.1 ∧ q.2.2 ≤ c2 ∧ K v1 v2 c1 c2 = true
  | 0, u1, u2, b1, b2, u, b, q, g1, g2, g3, g4, hk, hq => by
    change cond _ _ _ = true at hk
    rcases cond_t hk with ⟨hb, hk⟩ | ⟨hb, hk⟩
    · have e : r = 0 := Nat.eq_of_beq_eq_true hb
      subst e
      unfold tlL at hq; cases hq
      exact ⟨_, _, _, _, g1, g2, g3, g4, hk⟩
    · have e : r = 1 := by
        rcases Nat.eq_zero_or_pos r with e | e
        · subst e; cases hb
        · omega
      subst e
      unfold tlL at hq
      split at hq
      · cases hq
        refine ⟨_, _, _, _, g1, g2, ?_, ?_, hk⟩
        · show b1 / 2 ≤ b.1 * 1 / 2
          rw [Nat.mul_one]; exact Nat.div_le_div_right g3
        · show upn (b.2 * 1) 2 ≤ (b2 + 1) / 2
          rw [upn_eq (by omega), Nat.mul_one]; exact Nat.div_le_div_right (by omega)
      · cases hq
  | f + 1, u1, u2, b1, b2, u, b, q, g1, g2, g3, g4, hk, hq => by
    have hk' : tlK S S1 y1 y2 r K f (u1 * y1 / S) ((u2 * y2 + S1) / S) (b1 * (r + 2 * (f + 1)) / 2) ((b2 * (r + 2 * (f + 1)) + 1) / 2) = true := hk
    rw [show r + 2 * (f + 1) = r + 2 * f + 2 by omega] at hq hk'
    unfold tlL at hq
    split at hq
    · refine tlK_ok hS hS1 hr e1 e2 (u := tmP S u y) (b := byP b (r + 2 * f + 2) 2) ?_ ?_ ?_ ?_ hk' hq
      · exact Nat.div_le_div_right (Nat.mul_le_mul g1 e1)
      · show upn (u.2 * y.2) S ≤ _
        rw [upn_eq hS, hS1]
        exact Nat.div_le_div_right (Nat.add_le_add_right (Nat.mul_le_mul g2 e2) _)
      · exact Nat.div_le_div_right (Nat.mul_le_mul_right _ g3)
      · show upn (b.2 * (r + 2 * f + 2)) 2 ≤ _
        rw [upn_eq (by omega)]
        exact Nat.div_le_div_right (Nat.add_le_add_right (Nat.mul_le_mul_right _ g4) _)
    · cases hq
end Go.Proofs.YtjijfnggomhpiaaGreatDoor
namespace Go.Proofs.YtjijfnggomhpiaaGreatDoor
def nwK (n : Nat) (K : Nat → Bool) (f : Nat) : Nat → Bool :=
  Nat.rec (motive := fun _ => Nat → Bool) (fun t => K (Nat.pred t)) (fun _ ih t => fz (Nat.div (Nat.add t (Nat.div n t)) 2) fun t' => ih t') f
theorem nwK_ok {n : Nat} {K : Nat → Bool} : ∀ {f t : Nat}, nwK n K f t = true → ∃ r, K r = true
  | 0, t, h => ⟨Nat.pred t, h⟩
  | f + 1, t, h => by
    change fz _ _ = true at h
    rw [fz_eq] at h
    exact nwK_ok (f := f) h
def roK (S y1 y2 : Nat) (K : Nat → Nat → Bool) : Bool :=
  fz (Nat.mul y1 S) fun n => fz (Nat.pow 2 (Nat.succ (Nat.div (Nat.log2 n) 2))) fun t => nwK n (fun r => fz r fun r => fz (Nat.add r 12) fun q => cond (and (Nat.ble (Nat.mul r r) n) (Nat.ble (Nat.succ (Nat.mul y2 S)) (Nat.mul q q))) (K r q) false) 8 t
theorem roK_ok {S y1 y2 : Nat} {K : Nat → Nat → Bool} (h : roK S y1 y2 K = true) : ∃ r q, r * r ≤ y1 * S ∧ y2 * S < q * q ∧ K r q = true := by
  unfold roK at h
  rw [fz_eq, fz_eq] at h
  obtain ⟨r, h⟩ := nwK_ok h
  rw [fz_eq, fz_eq] at h
  rcases cond_t h with ⟨h1, h2⟩ | ⟨_, h2⟩
  · simp only [Bool.and_eq_true, Nat.ble_eq] at h1
    exact ⟨r, _, h1.1, h1.2, h2⟩
  · cases h2
theorem root_bnd {S r q : Nat} {a x : N2} (hS : S < 10 ^ 95) (h : rootP S a = some x) (h1 : r * r ≤ a.1 * S) (h2 : a.2 * S < q * q) : r ≤ x.1 ∧ x.2 ≤ q := by
  obtain ⟨hb, u, v, p1, p2, e, hu, hv⟩ := root_sp h
  have big : ∀ {u v : Nat}, u < 10 ^ 95 → v < 10 ^ 95 → u * v < 10 ^ 200 := fun hu hv => Nat.lt_trans (Nat.mul_lt_mul'' hu hv) (by decide)
  obtain ⟨_, u2⟩ := hu (big hb.1 hS)
  obtain ⟨v1, _⟩ := hv (big hb.2 hS)
  subst e
  constructor
  · show r ≤ u
    rcases Nat.lt_or_ge u r with g | g
    · have : (u + 1) * (u + 1) ≤ r * r := Nat.mul_le_mul g g
      omega
    · exact g
  · show v + 1 ≤ q
    rcases Nat.lt_or_ge v q with g | g
    · exact g
    · have : q * q ≤ v * v := Nat.mul_le_mul g g
      omega
def frK (S S1 k y1 y2 Y2 e1 e2 r1 r2 o1 o2 fr M : Nat) (K : Nat → Bool) : Bool :=
  tsK S Y2 (Nat.add fr (Nat.mul 2 M)) (fun s1 s2 =>
    cond (Nat.beq (Nat.mod fr 2) 1)
      (tlK S S1 y1 y2 1 (fun u1 u2 b1 b2 => cond (Nat.ble 1 b1) (stZ k (Nat.div (Nat.mul u1 S) b2) (Nat.div (Nat.add (Nat.mul u2 S) (Nat.pred b1)) b1) K) false) (Nat.div fr 2) (Nat.div (Nat.mul s1 r1) S) (Nat.div (Nat.add (Nat.mul s2 r2) S1) S) o1 o2)
      (tlK S S1 y1 y2 0 (fun u1 u2 b1 b2 => cond (Nat.ble 1 b1) (stZ k (Nat.div (Nat.mul u1 S) b2) (Nat.div (Nat.add (Nat.mul u2 S) (Nat.pred b1)) b1) K) false) (Nat.div fr 2) s1 s2 e1 e2)) M S 0
def xK (S S1 p1 p2 : Nat) (K : Nat → Nat → Nat → Nat → Nat → Nat → Nat → Nat → Nat → Bool) (n d : Nat) : Bool :=
  fz (Nat.mul n S) fun u => fz (Nat.div (Nat.div u d) 2) fun y1 => fz (Nat.div (Nat.succ (Nat.div (Nat.add u (Nat.pred d)) d)) 2) fun y2 =>
    expK S S1 (fun e1 e2 => fz e1 fun e1 => fz e2 fun e2 => roK S y1 y2 fun r1 r2 => fz (Nat.mul y2 2) fun Y2 => fz (Nat.div (Nat.mul e1 p1) S) fun o1 => fz (Nat.div (Nat.add (Nat.mul e2 p2) S1) S) fun o2 => K y1 y2 Y2 e1 e2 r1 r2 o1 o2) y1 y2
structure XR (S pl n d y1 y2 Y2 e1 e2 r1 r2 o1 o2 : Nat) : Prop where
  hy : (y1, y2) = yP S n d
  hY2 : Y2 = y2 * 2
  he : expP S (yP S n d) = some (e1, e2)
  hr : r1 * r1 ≤ y1 * S
  hq : y2 * S < r2 * r2
  ho : ∀ c, rootP S (piN pl, piN pl + 1) = some c → o1 ≤ (tmP S (e1, e2) c).1 ∧ (tmP S (e1, e2) c).2 ≤ o2
theorem xK_ok {S S1 pl n d : Nat} {p : N2} {K : Nat → Nat → Nat → Nat → Nat → Nat → Nat → Nat → Nat → Bool} (hS : 0 < S) (hS1 : S1 = S - 1) (hd : 0 < d) (hp : rootP S (piN pl, piN pl + 1) = some p) (h : xK S S1 p.1 p.2 K n d = true) :
    ∃ y1 y2 Y2 e1 e2 r1 r2 o1 o2, XR S pl n d y1 y2 Y2 e1 e2 r1 r2 o1 o2 ∧ K y1 y2 Y2 e1 e2 r1 r2 o1 o2 = true := by
  unfold xK at h
  rw [fz_eq, fz_eq, fz_eq] at h
  have ey : (Nat.div (Nat.div (Nat.mul n S) d) 2, Nat.div (Nat.succ (Nat.div (Nat.add (Nat.mul n S) (Nat.pred d)) d)) 2) = yP S n d := by
    unfold yP byP ofP
    rw [upn_eq hd, upn_eq (b := 2) (by omega), Nat.mul_one, Nat.mul_one]; rfl
  obtain ⟨e, he, h⟩ := expK_ok hS hS1 h
  rw [fz_eq, fz_eq] at h
  obtain ⟨r, q, h1, h2, h⟩ := roK_ok h
  rw [fz_eq, fz_eq, fz_eq] at h
  rw [ey] at he
  refine ⟨_, _, _, _, _, _, _, _, _, ⟨ey, rfl, he, h1, h2, fun c hc => ?_⟩, h⟩
  rw [hp] at hc; cases hc
  refine ⟨Nat.le_refl _, ?_⟩
  show upn (e.2 * p.2) S ≤ _
  rw [upn_eq hS, hS1]; exact Nat.le_refl _
def FrR (S pl k n d fr f : Nat) : Prop := ∀ r, tlP S pl n d fr = some r → (((f * k : Nat) : Int) < S - r.2 ∨ (f = 0 ∧ r.2 ≤ S)) ∧ (S : Int) - r.1 < (((f + 1) * k : Nat) : Int)
theorem ov_bnd {S k f u1 u2 b1 b2 : Nat} {q : N2 × N2} (h0 : 0 < q.2.2) (hb : 1 ≤ b1) (g1 : u1 ≤ q.1.1) (g2 : q.1.2 ≤ u2) (g3 : b1 ≤ q.2.1) (g4 : q.2.2 ≤ b2) (h1 : f = 0 ∨ f * k < u1 * S / b2) (h2 : (u2 * S + (b1 - 1)) / b1 < (f + 1) * k) :
    (f = 0 ∨ f * k < (ovP S q.1 q.2).1) ∧ (ovP S q.1 q.2).2 < (f + 1) * k := by
  constructor
  · exact h1.imp id fun h1 => Nat.lt_of_lt_of_le h1 (Nat.div_le_div (Nat.mul_le_mul_right _ g1) g4 (by omega))
  · refine Nat.lt_of_le_of_lt ?_ h2
    show upn (q.1.2 * S) q.2.1 ≤ _
    rw [← upn_eq hb, upn_le_iff (by omega)]
    have h3 := le_upn (a := u2 * S) hb
    exact Nat.le_trans (Nat.mul_le_mul_right _ g2) (Nat.le_trans h3 (Nat.mul_le_mul_left _ g3))
theorem frK_ok {S S1 pl k n d fr M0 y1 y2 Y2 e1 e2 r1 r2 o1 o2 : Nat} {K : Nat → Bool} (hS : 10 ^ 7 ≤ S) (hSl : S < 10 ^ 55) (hS1 : S1 = S - 1) (h1 : 0 < fr) (h20 : fr ≤ 20) (hd : 0 < d) (h100 : n ≤ 100 * d) (h50 : d ≤ 2500 * n)
    (hX : XR S pl n d y1 y2 Y2 e1 e2 r1 r2 o1 o2) (hM0 : M0 ≤ 400) (h : frK S S1 k y1 y2 Y2 e1 e2 r1 r2 o1 o2 fr M0 K = true) : ∃ f, K f = true ∧ FrR S pl k n d fr f := by
  have hS0 : 0 < S := by omega
  obtain ⟨hy, hY2, he, hr, hq, ho⟩ := hX
  have q1 : (yP S n d).1 = y1 := (congrArg Prod.fst hy).symm
  have q2 : (yP S n d).2 = y2 := (congrArg Prod.snd hy).symm
  unfold frK at h
  have vv : Vd (ofP S n d) := Vd.of hd
  have vy : Vd (yP S n d) := vv.by' (by omega)
  have y50 := (y_le (S := S) hd h100).2
  have yd : (yP S n d).2 ≤ (yP S n d).1 + 2 := by
    have h1 := Nat.div_add_mod (n * S) d
    have h2 := Nat.mod_lt (n * S) hd
    have h3 : upn (n * S) d ≤ n * S / d + 1 := by
      rw [upn_le_iff hd, Nat.add_mul, Nat.mul_comm (n * S / d)]; omega
    show upn (upn (n * S) d * 1) 2 ≤ n * S / d * 1 / 2 + 2
    rw [upn_le_iff (by omega)]; omega
  have y50' : S ≤ Y2 * 2500 := by
    have h3 := le_upn (a := n * S) hd
    have h4 := le_upn (a := upn (n * S) d * 1) (b := 2) (by omega)
    have h5 : upn (n * S) d ≤ Y2 := by
      rw [hY2, ← q2]; show _ ≤ upn (upn (n * S) d * 1) 2 * 2
      omega
    have h6 : n * S ≤ Y2 * d := Nat.le_trans h3 (Nat.mul_le_mul_right _ h5)
    have h7 : Y2 * d ≤ Y2 * (2500 * n) := Nat.mul_le_mul_left _ h50
    have hn : 0 < n := by
      rcases Nat.eq_zero_or_pos n with e | e
      · subst e; omega
      · exact e
    refine Nat.le_of_mul_le_mul_left ?_ hn
    have e : Y2 * (2500 * n) = n * (Y2 * 2500) := by ac_rfl
    omega
  have h' : tsK S Y2 (fr + 2 * M0) _ M0 S 0 = true := h
  obtain ⟨M, b1, b2, hM, hM4, g1, g2, h'⟩ := tsK_ok (fr := fr) (y := yP S n d) (by omega) h1 h20 y50 vy yd (by omega) y50' (k := 0) (t := S) (a := 0) (by omega) (by omega) (by show 1 * S ≤ S; omega) (by show 1 * S ≤ S; omega) (by rw [show (tmsP (tlN S (yP S n d) fr) (1 * S, 1 * S) 0).1 = S by simp [tmsP]]; omega) (Nat.le_refl 0) (by rw [Nat.zero_mul]; exact Nat.zero_le _) h'
  have key : ∀ s, sumP (tlN S (yP S n d) fr) (1 * S, 1 * S) = some s → b1 - 5000 ≤ s.1 ∧ s.2 ≤ b2 + 5000 := by
    intro s hs
    obtain ⟨m, hR, hrs⟩ := sumP_inv hs
    have hv := tms_all (nx := tlN S (yP S n d) fr) (t0 := (1 * S, 1 * S)) (P := Vd) (Nat.le_refl _) fun n t hn ht => (ht.tm hS0 vy).by' (by omega)
    have rat : ∀ m', (tmsP (tlN S (yP S n d) fr) (1 * S, 1 * S) m').2 ≤ 4 → ∀ k, m' ≤ k → (tmsP (tlN S (yP S n d) fr) (1 * S, 1 * S) (k + 1)).2 * 2 ≤ (tmsP (tlN S (yP S n d) fr) (1 * S, 1 * S) k).2 + 2 := fun m' h4 k hk => by
      have g := tl_ratio (T := 1) (y := yP S n d) (y' := yP S n d) (m := m') (by omega) h1 h20 (by omega) y50 h4
      rw [Nat.mul_one] at g
      exact r_tl hS0 (by omega) (Nat.le_trans g (Nat.mul_le_mul_right _ (by omega)))
    have g := ts_bound hR (by omega) hM4 hv (rat m (by have := hR.stop.1; omega)) (rat M hM4)
    rw [hrs] at g
    omega
  have main : ∀ {r f0 u1 u2 c1 c2 : Nat}, r < 2 → fr = r + 2 * f0 → (∀ s p, sumP (tlN S (yP S n d) fr) (1 * S, 1 * S) = some s → oddP S pl (yP S n d) fr s (e1, e2) = some p → u1 ≤ p.1.1 ∧ p.1.2 ≤ u2 ∧ c1 ≤ p.2.1 ∧ p.2.2 ≤ c2) →
      tlK S S1 y1 y2 r (fun u1 u2 b1 b2 => cond (Nat.ble 1 b1) (stZ k (Nat.div (Nat.mul u1 S) b2) (Nat.div (Nat.add (Nat.mul u2 S) (Nat.pred b1)) b1) K) false) f0 u1 u2 c1 c2 = true → ∃ f, K f = true ∧ FrR S pl k n d fr f := by
    intro r0 f0 u1 u2 c1 c2 hr2 hfr hu hk
    have fin : ∀ u1 u2 b1 b2, (cond (Nat.ble 1 b1) (stZ k (Nat.div (Nat.mul u1 S) b2) (Nat.div (Nat.add (Nat.mul u2 S) (Nat.pred b1)) b1) K) false) = true → 1 ≤ b1 ∧ ∃ f, (f = 0 ∨ f * k < u1 * S / b2) ∧ (u2 * S + (b1 - 1)) / b1 < (f + 1) * k ∧ K f = true := by
      intro u1 u2 b1 b2 hk
      rcases cond_t hk with ⟨hb, hk⟩ | ⟨_, hk⟩
      · rw [Nat.ble_eq] at hb
        exact ⟨hb, stZ_ok hk⟩
      · cases hk
    by_cases hex : ∃ r, tlP S pl n d fr = some r
    · obtain ⟨r, hr0⟩ := hex
      obtain ⟨_, _, _, _, _, s, e, p, q, hs, he', hp, hq', _, _, q3, q4, rfl⟩ := tlP_inv hr0
      rw [he] at he'; cases he'
      obtain ⟨w1, w2, w3, w4⟩ := hu s p hs hp
      rw [hfr] at hq'
      obtain ⟨v1, v2, c1', c2', x1, x2, x3, x4, hk⟩ := tlK_ok (y := yP S n d) hS0 hS1 hr2 (by omega) (by omega) w1 w2 w3 w4 hk hq'
      obtain ⟨hb, f, z1, z2, hf⟩ := fin _ _ _ _ hk
      refine ⟨f, hf, fun r' hr' => ?_⟩
      rw [hr0] at hr'; cases hr'
      obtain ⟨o3, o4⟩ := ov_bnd q4 hb x1 x2 x3 x4 z1 z2
      show (((f * k : Nat) : Int) < S - (((1 * S : Nat) : Int) - ((ovP S q.1 q.2).1 : Int)) ∨ (f = 0 ∧ (((1 * S : Nat) : Int) - ((ovP S q.1 q.2).1 : Int)) ≤ S)) ∧ (S : Int) - (((1 * S : Nat) : Int) - ((ovP S q.1 q.2).2 : Int)) < _
      omega
    ·
      have go : ∀ f0 u1 u2 c1 c2, tlK S S1 y1 y2 r0 (fun u1 u2 b1 b2 => cond (Nat.ble 1 b1) (stZ k (Nat.div (Nat.mul u1 S) b2) (Nat.div (Nat.add (Nat.mul u2 S) (Nat.pred b1)) b1) K) false) f0 u1 u2 c1 c2 = true → ∃ f, K f = true := by
        intro f0
        induction f0 with
        | zero =>
          intro u1 u2 c1 c2 hk
          change cond _ _ _ = true at hk
          rcases cond_t hk with ⟨_, hk⟩ | ⟨_, hk⟩
          · obtain ⟨_, f, _, _, hf⟩ := fin _ _ _ _ hk; exact ⟨f, hf⟩
          · obtain ⟨_, f, _, _, hf⟩ := fin _ _ _ _ hk; exact ⟨f, hf⟩
        | succ f0 ih =>
          intro u1 u2 c1 c2 hk
          exact ih _ _ _ _ hk
      obtain ⟨f, hf⟩ := go _ _ _ _ _ hk
      exact ⟨f, hf, fun r hr' => absurd ⟨r, hr'⟩ hex⟩
  rcases cond_t h' with ⟨ho1, h'⟩ | ⟨ho1, h'⟩
  · have ho1' : fr % 2 = 1 := Nat.eq_of_beq_eq_true ho1
    refine main (by omega) (by show fr = 1 + 2 * (fr / 2); omega) (fun s p hs hp => ?_) h'
    obtain ⟨k1, k2⟩ := key s hs
    unfold oddP at hp
    rw [if_pos ho1'] at hp
    split at hp
    · cases hu : rootP S (yP S n d) with
      | none => rw [hu] at hp; cases hp
      | some u =>
        rw [hu, Option.bind_some] at hp
        cases hc : rootP S (piN pl, piN pl + 1) with
        | none => rw [hc] at hp; cases hp
        | some c =>
          rw [hc, Option.bind_some] at hp
          split at hp
          · cases hp
            obtain ⟨ru1, ru2⟩ := root_bnd (r := r1) (q := r2) (by omega) hu (by rw [q1]; exact hr) (by rw [q2]; exact hq)
            obtain ⟨oo1, oo2⟩ := ho c hc
            refine ⟨Nat.div_le_div_right (Nat.mul_le_mul k1 ru1), ?_, oo1, oo2⟩
            show upn (s.2 * u.2) S ≤ _
            rw [upn_eq hS0, hS1]
            exact Nat.div_le_div_right (Nat.add_le_add_right (Nat.mul_le_mul k2 ru2) _)
          · cases hp
    · cases hp
  · have ho1' : ¬ fr % 2 = 1 := fun e => by
      have : Nat.beq (Nat.mod fr 2) 1 = true := by show Nat.beq (fr % 2) 1 = true; rw [e]; rfl
      rw [this] at ho1; cases ho1
    refine main (by omega) (by show fr = 0 + 2 * (fr / 2); omega) (fun s p hs hp => ?_) h'
    obtain ⟨k1, k2⟩ := key s hs
    unfold oddP at hp
    rw [if_neg ho1'] at hp
    cases hp
    exact ⟨k1, k2, Nat.le_refl _, Nat.le_refl _⟩
end Go.Proofs.YtjijfnggomhpiaaGreatDoor
