/- Part of the proof of a statement about the special functions. -/
import Derived.Test.YtjijfnggomhpiaaGreatDoorIsLToIsN
set_option linter.all false
namespace Go.Proofs.YtjijfnggomhpiaaGreatDoor
abbrev K14 : Nat := 100000000000000
abbrev B20 : Nat := 100000000000000000000
def exCk (n d : Nat) : Bool := fz (Nat.mul n 10000000000000000000000000) fun u => expK 10000000000000000000000000 9999999999999999999999999 (fun e1 e2 =>
    stK 100000000000000 e1 e2 fun f => cond (Nat.ble f 100000000000000000000) (cond (Nat.ble 1 e1) (stK 100000000000000 (Nat.div 100000000000000000000000000000000000000000000000000 e2) (Nat.div (Nat.add 100000000000000000000000000000000000000000000000000 (Nat.pred e1)) e1) fun g => Nat.ble g 100000000000000000000) false) false)
  (Nat.div u d) (Nat.div (Nat.add u (Nat.pred d)) d)
def In11 (E : Nat → Option (Int × Int)) (r : Int × Int) (f : Int) : Prop := f * 100000000000000 < r.1 ∧ (r.2 < (f + 1) * 100000000000000 ∨ (f + 1 = 100000000000 ∧ r.2 ≤ 10000000000000000000000000 ∧ ∀ k r', E k = some r' → r'.1 < tenI k)) ∧ f.natAbs ≤ 200000000000000000000
def Cel (E : Nat → Option (Int × Int)) : Prop := ∃ r f, E 25 = some r ∧ In11 E r f
theorem exCk_ok {n d : Nat} (hn : 0 < n) (hn9 : n < 10 ^ 90) (hd : 0 < d) (hd9 : d < 10 ^ 90) (h : exCk n d = true) : Cel (fun k => (exP (10 ^ k) (n : Int) d).map zP) ∧ Cel (fun k => (exP (10 ^ k) (-(n : Int)) d).map zP) := by
  unfold exCk at h
  rw [fz_eq] at h
  have eS : (10 : Nat) ^ 25 = 10000000000000000000000000 := by decide
  rw [show (Nat.div (Nat.mul n 10000000000000000000000000) d) = (ofP S25 n d).1 by rw [of_eq hd], show (Nat.div (Nat.add (Nat.mul n 10000000000000000000000000) (Nat.pred d)) d) = (ofP S25 n d).2 by rw [of_eq hd]] at h
  obtain ⟨e, he, h⟩ := expK_ok (by decide) (by decide) h
  obtain ⟨f, h1, h2, h⟩ := stK_ok h
  rcases cond_t h with ⟨hf, h⟩ | ⟨_, h⟩
  · rcases cond_t h with ⟨h3, h⟩ | ⟨_, h⟩
    · rw [Nat.ble_eq] at h3 hf
      obtain ⟨g, g1, g2, hg⟩ := stK_ok h
      rw [Nat.ble_eq] at hg
      constructor
      · refine ⟨zP e, f, ?_, ?_⟩
        · show (exP (10 ^ 25) (n : Int) d).map zP = _
          rw [eS]
          unfold exP
          rw [if_pos ⟨by omega, hd9, hd⟩, show ((n : Int)).natAbs = n from rfl, he, Option.bind_some, if_neg (by omega)]; rfl
        · refine ⟨?_, Or.inl ?_, by omega⟩
          · show (f : Int) * 100000000000000 < (e.1 : Int); omega
          · show (e.2 : Int) < ((f : Int) + 1) * 100000000000000; omega
      · have e3 : ovP S25 (1 * S25, 1 * S25) e = (Nat.div 100000000000000000000000000000000000000000000000000 e.2, Nat.div (Nat.add 100000000000000000000000000000000000000000000000000 (Nat.pred e.1)) e.1) := by
          unfold ovP
          rw [upn_eq (by omega)]; rfl
        have e2p : 0 < e.2 := by
          rcases Nat.eq_zero_or_pos e.2 with z | z
          · exfalso
            rw [z] at g1
            have : Nat.div 100000000000000000000000000000000000000000000000000 0 = 0 := rfl
            omega
          · exact z
        refine ⟨zP (ovP S25 (1 * S25, 1 * S25) e), g, ?_, ?_⟩
        · show (exP (10 ^ 25) (-(n : Int)) d).map zP = _
          rw [eS]
          unfold exP
          rw [if_pos ⟨by omega, hd9, hd⟩, show (-(n : Int)).natAbs = n by omega, he, Option.bind_some, if_pos (by omega), if_pos ⟨by omega, e2p⟩]; rfl
        · rw [e3]
          refine ⟨?_, Or.inl ?_, by omega⟩
          · show (g : Int) * 100000000000000 < ((Nat.div 100000000000000000000000000000000000000000000000000 e.2 : Nat) : Int); omega
          · show ((Nat.div (Nat.add 100000000000000000000000000000000000000000000000000 (Nat.pred e.1)) e.1 : Nat) : Int) < ((g : Int) + 1) * 100000000000000; omega
    · cases h
  · cases h
def lgCk (x1 x2 n d : Nat) : Bool := logK 10000000000000000000000000 9999999999999999999999999 x1 x2 (fun u1 u2 => stK 100000000000000 u1 u2 fun f => Nat.ble f 100000000000000000000) n d
theorem lgCk_ok {x : N2} {n d : Nat} (hx : artP S25 (ofP S25 1 3) = some x) (hd : 0 < d) (hdn : d < n) (hn : n < 10 ^ 80) (h : lgCk x.1 x.2 n d = true) : Cel (fun k => lgB (10 ^ k) n d) ∧ Cel (fun k => lgB (10 ^ k) d n) := by
  have eS : (10 : Nat) ^ 25 = 10000000000000000000000000 := by decide
  obtain ⟨u, hu, h⟩ := logK_ok (by decide) (by decide) hx hn (by omega) hd (by omega) h
  obtain ⟨f, h1, h2, hf⟩ := stK_ok h
  rw [Nat.ble_eq] at hf
  constructor
  · refine ⟨zP u, f, ?_, ?_, Or.inl ?_, by omega⟩
    · show lgB (10 ^ 25) n d = _
      rw [eS]
      unfold lgB
      rw [if_pos ⟨hn, by omega, hd, by omega⟩, if_neg (by omega), hu]; rfl
    · show (f : Int) * 100000000000000 < (u.1 : Int); omega
    · show (u.2 : Int) < ((f : Int) + 1) * 100000000000000; omega
  · refine ⟨((0 : Int) - (u.2 : Int), (0 : Int) - (u.1 : Int)), -(f : Int) - 1, ?_, ?_, Or.inl ?_, by omega⟩
    · show lgB (10 ^ 25) d n = _
      rw [eS]
      unfold lgB
      rw [if_pos ⟨by omega, hn, by omega, hd⟩, if_pos hdn, hu]; rfl
    · show (-(f : Int) - 1) * 100000000000000 < (0 : Int) - (u.2 : Int); omega
    · show (0 : Int) - (u.1 : Int) < (-(f : Int) - 1 + 1) * 100000000000000; omega
def nrCk (c1 c2 n d : Nat) : Bool := hnK 10000000000000000000000000 9999999999999999999999999 c1 c2 (fun u1 u2 => stK 100000000000000 u1 u2 fun f => Nat.ble f 100000000000000000000) n d
theorem nrCk_ok {c : N2} {n d : Nat} (hc : rootP S25 (byP (piN 25, piN 25 + 1) 2 1) = some c) (hcb : bdB c = true) (hn : 0 < n) (hd : 0 < d) (h : nrCk c.1 c.2 n d = true) : Cel (fun k => nrP (10 ^ k) k (n : Int) d) ∧ Cel (fun k => nrP (10 ^ k) k (-(n : Int)) d) := by
  have eS : (10 : Nat) ^ 25 = 10000000000000000000000000 := by decide
  obtain ⟨u, hu, h⟩ := hnK_ok (by decide) (by decide) hc hcb hd h
  obtain ⟨f, h1, h2, hf⟩ := stK_ok h
  rw [Nat.ble_eq] at hf
  have eo : ofP S25 1 2 = (5000000000000000000000000, 5000000000000000000000000) := by decide +kernel
  constructor
  · refine ⟨zP (plP (ofP S25 1 2) u), 50000000000 + f, ?_, ?_, Or.inl ?_, by omega⟩
    · show nrP (10 ^ 25) 25 (n : Int) d = _
      rw [eS]
      unfold nrP
      rw [show ((n : Int)).natAbs = n from rfl, hu, Option.map_some, if_neg (by omega)]
    · rw [eo]; show (50000000000 + (f : Int)) * 100000000000000 < (((5000000000000000000000000 + u.1 : Nat)) : Int); omega
    · rw [eo]; show (((5000000000000000000000000 + u.2 : Nat)) : Int) < (50000000000 + (f : Int) + 1) * 100000000000000; omega
  · refine ⟨miP (ofP S25 1 2) u, 50000000000 - f - 1, ?_, ?_, Or.inl ?_, by omega⟩
    · show nrP (10 ^ 25) 25 (-(n : Int)) d = _
      rw [eS]
      unfold nrP
      rw [show (-(n : Int)).natAbs = n by omega, hu, Option.map_some, if_pos (by omega)]
    · rw [eo]; show (50000000000 - (f : Int) - 1) * 100000000000000 < (5000000000000000000000000 : Int) - (u.2 : Int); omega
    · rw [eo]; show (5000000000000000000000000 : Int) - (u.1 : Int) < (50000000000 - (f : Int) - 1 + 1) * 100000000000000; omega
def chA (S S1 k y1 y2 Y2 e1 e2 r1 r2 o1 o2 M : Nat) (f : Nat) : Nat → Bool :=
  Nat.rec (motive := fun _ => Nat → Bool) (fun _ => true) (fun _ ih fr => frK S S1 k y1 y2 Y2 e1 e2 r1 r2 o1 o2 fr M fun f => cond (Nat.ble f 100000000000000000000) (fz (Nat.succ fr) ih) false) f
def chCk (p1 p2 n d : Nat) : Bool := xK 10000000000000000000000000 9999999999999999999999999 p1 p2 (fun y1 y2 Y2 e1 e2 r1 r2 o1 o2 => fz (Nat.add 27 (Nat.div (Nat.mul n 21) (Nat.mul 10 d))) fun M => cond (Nat.ble M 400) (chA 10000000000000000000000000 9999999999999999999999999 100000000000000 y1 y2 Y2 e1 e2 r1 r2 o1 o2 M 20 1) false) n d
theorem chA_ok {S S1 pl k n d y1 y2 Y2 e1 e2 r1 r2 o1 o2 M : Nat} (hS : 10 ^ 7 ≤ S) (hSl : S < 10 ^ 55) (hS1 : S1 = S - 1) (hd : 0 < d) (h100 : n ≤ 100 * d) (h50 : d ≤ 50 * n) (hM : M ≤ 400)
    (hX : XR S pl n d y1 y2 Y2 e1 e2 r1 r2 o1 o2) : ∀ {f fr : Nat}, 0 < fr → fr + f ≤ 21 → chA S S1 k y1 y2 Y2 e1 e2 r1 r2 o1 o2 M f fr = true → ∀ g, fr ≤ g → g < fr + f → ∃ c, c ≤ 100000000000000000000 ∧ FrR S pl k n d g c
  | 0, fr, _, _, _, g, h1, h2 => by omega
  | f + 1, fr, h0, hf, h, g, h1, h2 => by
    have h' : frK S S1 k y1 y2 Y2 e1 e2 r1 r2 o1 o2 fr M (fun c => cond (Nat.ble c 100000000000000000000) (fz (Nat.succ fr) (chA S S1 k y1 y2 Y2 e1 e2 r1 r2 o1 o2 M f)) false) = true := h
    obtain ⟨c, hc, hF⟩ := frK_ok hS hSl hS1 h0 (by omega) hd h100 h50 hX hM h'
    rcases cond_t hc with ⟨hb, hc⟩ | ⟨_, hc⟩
    · rw [Nat.ble_eq] at hb
      rw [fz_eq] at hc
      rcases Nat.eq_or_lt_of_le h1 with e | e
      · subst e; exact ⟨c, hb, hF⟩
      · exact chA_ok hS hSl hS1 hd h100 h50 hM hX (by omega) (by omega) hc g e (by omega)
    · cases hc
theorem chCk_ok {p : N2} {n d : Nat} (hp : rootP S25 (piN 25, piN 25 + 1) = some p) (hn : 0 < n) (hn9 : n ≤ 10 ^ 14) (hd : 0 < d) (hd9 : d < 10 ^ 13) (h100 : n ≤ 100 * d) (h50 : d ≤ 50 * n) (h : chCk p.1 p.2 n d = true) : ∀ fr, 0 < fr → fr ≤ 20 → Cel (fun k => tlP (10 ^ k) k n d fr) := by
  intro fr h1 h20
  have eS : (10 : Nat) ^ 25 = 10000000000000000000000000 := by decide
  obtain ⟨y1, y2, Y2, e1, e2, r1, r2, o1, o2, hX, h⟩ := xK_ok (pl := 25) (by decide) (by decide) hd hp h
  rw [fz_eq] at h
  rcases cond_t h with ⟨hM, h⟩ | ⟨_, h⟩
  · rw [Nat.ble_eq] at hM
    obtain ⟨c, hc, hF⟩ := chA_ok (by decide) (by decide) (by decide) hd h100 h50 hM hX (by omega) (by omega) h fr h1 (by omega)
    obtain ⟨r, hr, _⟩ := (nst_chi h1 h20 hn hn9 hd hd9 h100).tot 25 (by omega) (by omega)
    simp only [eS] at hr
    obtain ⟨a1, a2⟩ := hF r hr
    have s25 : ((S25 : Nat) : Int) = 10000000000000000000000000 := rfl
    rw [s25] at a1 a2
    refine ⟨r, 100000000000 - c - 1, ?_, ?_, ?_, by omega⟩
    · show tlP (10 ^ 25) 25 n d fr = _
      rw [eS]; exact hr
    · omega
    · rcases a1 with a1 | ⟨a1, a3⟩
      · exact Or.inl (by omega)
      · refine Or.inr ⟨by omega, a3, fun k r' h' => ?_⟩
        exact tl_lt1 (Nat.pow_pos (by decide)) hn h'
  · cases h
def pqN : N2 := (17724538509055160272981674, 17724538509055160272981675)
theorem pq_root : rootP S25 (piN 25, piN 25 + 1) = some pqN := by decide +kernel
def p2N : N2 := (25066282746310005024157652, 25066282746310005024157653)
theorem p2_root : rootP S25 (byP (piN 25, piN 25 + 1) 2 1) = some p2N := by decide +kernel
def x3N : N2 := (6931471805599453094172270, 6931471805599453094172390)
theorem x3_art : artP S25 (ofP S25 1 3) = some x3N := by decide +kernel
def ceCk (n d : Nat) : Bool := and (exCk n d) (and (cond (Nat.ble n d) (cond (Nat.ble d n) true (lgCk 6931471805599453094172270 6931471805599453094172390 d n)) (lgCk 6931471805599453094172270 6931471805599453094172390 n d))
  (and (cond (Nat.ble (Nat.mul 8 d) n) true (nrCk 25066282746310005024157652 25066282746310005024157653 n d)) (chCk 17724538509055160272981674 17724538509055160272981675 n d)))
structure CeR (n d : Nat) : Prop where
  ex : Cel (fun k => (exP (10 ^ k) (n : Int) d).map zP)
  exn : Cel (fun k => (exP (10 ^ k) (-(n : Int)) d).map zP)
  lg : n ≠ d → Cel (fun k => lgB (10 ^ k) n d)
  nr : n < 8 * d → Cel (fun k => nrP (10 ^ k) k (n : Int) d)
  nrn : n < 8 * d → Cel (fun k => nrP (10 ^ k) k (-(n : Int)) d)
  ch : ∀ fr, 0 < fr → fr ≤ 20 → Cel (fun k => tlP (10 ^ k) k n d fr)
theorem ceCk_ok {n d : Nat} (hn : 0 < n) (hn9 : n ≤ 10 ^ 12) (hd : 0 < d) (hd9 : d < 10 ^ 12) (h100 : n ≤ 100 * d) (h50 : d ≤ 50 * n) (h : ceCk n d = true) : CeR n d := by
  unfold ceCk at h
  simp only [Bool.and_eq_true] at h
  obtain ⟨h1, h2, h3, h4⟩ := h
  obtain ⟨a1, a2⟩ := exCk_ok hn (by omega) hd (by omega) h1
  refine ⟨a1, a2, fun hne => ?_, fun h8 => ?_, fun h8 => ?_, chCk_ok pq_root hn (by omega) hd (by omega) h100 h50 h4⟩
  · rcases cond_t h2 with ⟨hb, h2⟩ | ⟨hb, h2⟩
    · rw [Nat.ble_eq] at hb
      rcases cond_t h2 with ⟨hb2, _⟩ | ⟨_, h2⟩
      · rw [Nat.ble_eq] at hb2; omega
      · exact (lgCk_ok x3_art hn (by omega) (by omega) h2).2
    · have hb' : ¬ n ≤ d := fun c => by rw [Nat.ble_eq_true_of_le c] at hb; cases hb
      exact (lgCk_ok x3_art hd (by omega) (by omega) h2).1
  · rcases cond_t h3 with ⟨hb, _⟩ | ⟨_, h3⟩
    · rw [Nat.ble_eq] at hb
      have : Nat.mul 8 d = 8 * d := rfl
      omega
    · exact (nrCk_ok p2_root (by decide) hn hd h3).1
  · rcases cond_t h3 with ⟨hb, _⟩ | ⟨_, h3⟩
    · rw [Nat.ble_eq] at hb
      have : Nat.mul 8 d = 8 * d := rfl
      omega
    · exact (nrCk_ok p2_root (by decide) hn hd h3).2
def ceRow (d lo m : Nat) : Bool := allN (fun i => fz (Nat.add lo i) fun n => cond (Nat.beq (Nat.gcd n d) 1) (ceCk n d) true) m
theorem ceRow_ok {d lo m n : Nat} (h : ceRow d lo m = true) (hl : lo < n) (hh : n ≤ lo + m) (hd : 0 < d) (hd50 : d ≤ 50) (h19 : n ≤ 19 * d) (hg : Nat.gcd n d = 1) : CeR n d := by
  unfold ceRow at h
  have h1 := allN_ok h (n - lo) (by omega) (by omega)
  rw [fz_eq, show Nat.add lo (n - lo) = n from by show lo + (n - lo) = n; omega] at h1
  rcases cond_t h1 with ⟨_, h2⟩ | ⟨h2, _⟩
  · exact ceCk_ok (by omega) (by omega) hd (by omega) (by omega) (by omega) h2
  · rw [hg] at h2; cases h2
end Go.Proofs.YtjijfnggomhpiaaGreatDoor
