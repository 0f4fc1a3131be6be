/- Part of the proof of a statement about the special functions. -/
import Derived.Test.YtjijfnggomhpiaaGreatDoorSp15ToSp18
import Derived.Test.YtjijfnggomhpiaaGreatDoorEngGToInt1
set_option linter.all false
namespace Go.Proofs.YtjijfnggomhpiaaGreatDoor
open Go Go.Eng Go.RowKit
def CellV (pl : Nat) (f c : Int) : Value := .tuple #[.agg #[S (qR f (tenI pl)).1, S (qR f (tenI pl)).2, S (qR c (tenI pl)).1, S (qR c (tenI pl)).2], .int .i64 0]
def FindR (pl : Nat) (bd : Nat → Option (Int × Int)) (f c : Int) : Prop :=
  c ≤ f + 1 ∧ ((∃ r, bd 15 = some r ∧ CellW 15 pl r f c) ∨ (∃ r r2 f1 c1, bd 15 = some r ∧ CellW 15 pl r f1 c1 ∧ f1 + 1 < c1 ∧ bd 40 = some r2 ∧ CellW 40 pl r2 f c))
theorem FindR.uniq {pl : Nat} {bd : Nat → Option (Int × Int)} {f c f' c' : Int} (h : FindR pl bd f c) (h' : FindR pl bd f' c') : f = f' ∧ c = c' := by
  obtain ⟨h1, ⟨r, e, w⟩ | ⟨r, r2, f1, c1, e, w, n, e2, w2⟩⟩ := h <;> obtain ⟨h1', ⟨r', e', w'⟩ | ⟨r', r2', f1', c1', e', w', n', e2', w2'⟩⟩ := h'
  · rw [e] at e'; cases e'; exact ⟨w.hf.symm.trans w'.hf, w.hc.symm.trans w'.hc⟩
  · rw [e] at e'; cases e'; have := w.hf.symm.trans w'.hf; have := w.hc.symm.trans w'.hc; omega
  · rw [e] at e'; cases e'; have := w.hf.symm.trans w'.hf; have := w.hc.symm.trans w'.hc; omega
  · rw [e2] at e2'; cases e2'; exact ⟨w2.hf.symm.trans w2'.hf, w2.hc.symm.trans w2'.hc⟩
theorem CellR.w {pl : Nat} {r : Int × Int} {f c : Int} (h : CellR pl r f c) : CellW 15 pl r f c := ⟨h.b1, h.b2, h.le, h.hf, h.hc, h.f9, h.c9, h.fc⟩
theorem FindR.one {pl : Nat} {bd : Nat → Option (Int × Int)} {r : Int × Int} {f c : Int} (e : bd 15 = some r) (h : CellR pl r f c) : FindR pl bd f c := ⟨h.one, Or.inl ⟨r, e, h.w⟩⟩
theorem cell_find {l m l1 m1 l2 m2 l3 m3 l4 m4 : List UInt8} {g : Nat} {lb : List Value} {a b la lb0 ha hb : Int} {pl : Nat} {w : World} {bd : Nat → Option (Int × Int)} {f c : Int} (hF : FindR pl bd f c) (e : (l, m) = qR a b) (h : Q9 a b) (ha12 : a.natAbs < 10 ^ 12) (hb12 : b < 10 ^ 12) (e1 : (l1, m1) = qR la lb0) (q1 : Q9 la lb0) (e2 : (l2, m2) = qR ha hb) (q2 : Q9 ha hb) (hrt : rightB pl a b la lb0 ha hb = true) (hp : pl ≤ 12) (hne : ¬ ((l, m) : R) = (l3, m3)) (hg : Enters Tryz.prog g)
    (hbd : ∀ k r, k ≤ 40 → bd k = some r → ∀ W, Ext w W → Calls Tryz.prog g ([.agg #[.int .i64 ((pl + k : Nat) : Int), S (nS (10 ^ (pl + k)))], .agg #[S l, S m]].toArray ++ lb.toArray) W (Ret W fun v _ => v = .agg #[S (showI r.1), S (showI r.2)])) (ht : Tb w) :
    Calls Tryz.prog 44 #[.agg #[S (l1), S (m1), S (l2), S (m2), S (l3), S (m3), S (l4), S (m4), .func (.func g) #[] lb.toArray], .agg #[S (l), S (m)], .int .i64 ((pl : Nat) : Int)] w (Ret w fun v _ => v = CellV pl f c) := by
  obtain ⟨h1, ⟨r, er, w⟩ | ⟨r, r2, f1, c1, er, w, n, er2, w2⟩⟩ := hF
  · exact cell_ok e h ha12 hb12 e1 q1 e2 q2 hrt hp hne hg (hbd 15 r (by decide) er) (w.r h1) ht
  · exact cell_two e h ha12 hb12 e1 q1 e2 q2 hrt hp hne hg (hbd 15 r (by decide) er) (hbd 40 r2 (by decide) er2) w n w2 h1 ht
theorem cell_at2 {l m l1 m1 l2 m2 l3 m3 l4 m4 : List UInt8} {g : Nat} {lb : List Value} {a b la lb0 ha hb va vb f c : Int} {pl : Nat} {w : World} (hf : flI va vb (tenI pl) = f) (hc : clI va vb (tenI pl) = c) (e : (l, m) = qR a b) (h : Q9 a b) (ha12 : a.natAbs < 10 ^ 12) (hb12 : b < 10 ^ 12) (e1 : (l1, m1) = qR la lb0) (q1 : Q9 la lb0) (e2 : (l2, m2) = qR ha hb) (q2 : Q9 ha hb) (e4 : (l4, m4) = qR va vb) (q4 : Q9 va vb) (hrt : rightB pl a b la lb0 ha hb = true) (hp : pl ≤ 12) (heq : ((l, m) : R) = (l3, m3)) (ht : Tb w) :
    Calls Tryz.prog 44 #[.agg #[S (l1), S (m1), S (l2), S (m2), S (l3), S (m3), S (l4), S (m4), .func (.func g) #[] lb.toArray], .agg #[S (l), S (m)], .int .i64 ((pl : Nat) : Int)] w (Ret w fun v _ => v = CellV pl f c) := by
  subst hf hc
  exact cell_at e h ha12 hb12 e1 q1 e2 q2 e4 q4 hrt hp heq ht
theorem rightB_ok {pl : Nat} {a b la lb ha hb : Int} (hp : pl ≤ 12) (h1 : la * b ≤ a * lb) (h2 : a * hb ≤ ha * b) : rightB pl a b la lb ha hb = true := by
  unfold rightB
  rw [decide_eq_true (by omega), decide_eq_true (cmpI_swap0.2 h1), decide_eq_true (cmpI_nonpos.2 h2)]; rfl
theorem sc_pow {n : Nat} (h : n ≤ 90) : Sc (10 ^ n) := ⟨Nat.pow_pos (by decide), Nat.pow_lt_pow_right (by decide) (by omega)⟩
theorem qR_ne {a b c d : Int} (hb : 0 < b) (hd : 0 < d) {r : R} (e : r = qR c d) (h : a * d ≠ c * b) : ¬ (((qR a b).1, (qR a b).2) : R) = r := fun x => h (qR_inj hb hd (x.trans e))
theorem q20n : (([45, 50, 48], [49]) : R) = qR (-20) 1 := by decide +kernel
theorem q20p : (([50, 48], [49]) : R) = qR 20 1 := by decide +kernel
theorem q9_20n : Q9 (-20) 1 := ⟨by decide, by decide, by decide⟩
theorem q9_20p : Q9 20 1 := ⟨by decide, by decide, by decide⟩
theorem q9_12 {a b : Int} (ha : a.natAbs < 10 ^ 12) (h0 : 0 < b) (hb : b < 10 ^ 12) : Q9 a b := ⟨Nat.lt_trans ha (by decide), h0, by omega⟩
theorem ten_fl {pl : Nat} : flI 1 1 (tenI pl) = tenI pl ∧ clI 1 1 (tenI pl) = tenI pl := by unfold flI clI; simp
section
variable {a b : Int} {pl : Nat} {f c : Int} {w : World}
def expBd (pl : Nat) (a b : Int) (k : Nat) : Option (Int × Int) := (exP (10 ^ (pl + k)) (redN a b) (redD a b).toNat).map zP
theorem exp_q (ha12 : a.natAbs < 10 ^ 12) (hb : 0 < b) (hb12 : b < 10 ^ 12) (h0 : a ≠ 0) (hlo : -20 * b ≤ a) (hhi : a ≤ 20 * b) (hp : pl ≤ 12) (hF : FindR pl (expBd pl a b) f c) (ht : Tb w) :
    Calls Tryz.prog 16 #[.agg #[S (qR a b).1, S (qR a b).2], .int .i64 ((pl : Nat) : Int)] w (Ret w fun v _ => v = CellV pl f c) := by
  have q := q9_12 ha12 hb hb12
  refine Exp_ok (fun W e => cell_find (lb := []) hF rfl q ha12 hb12 q20n q9_20n q20p q9_20p (rightB_ok hp (by omega) (by omega)) hp (qR_ne hb (by decide) q01 (by omega)) en1027 ?_ (ht.ext e)) ht
  intro k r hk hr W' e'
  unfold expBd at hr
  cases hx : exP (10 ^ (pl + k)) (redN a b) (redD a b).toNat with
  | none => rw [hx] at hr; cases hr
  | some u =>
    rw [hx] at hr; cases hr
    rw [qR_str hb]
    exact expB_ok (sc_pow (by omega)) hx ((ht.ext e).ext e')
theorem zero_q (hb : 0 < b) (h0 : a = 0) : (((qR a b).1, (qR a b).2) : R) = ([48], [49]) := by
  have h : qR a b = qR 0 1 := qR_congr hb (by decide) (by omega)
  rw [q01, ← h]
theorem exp_z (hb : 0 < b) (hb12 : b < 10 ^ 12) (h0 : a = 0) (hp : pl ≤ 12) (ht : Tb w) :
    Calls Tryz.prog 16 #[.agg #[S (qR a b).1, S (qR a b).2], .int .i64 ((pl : Nat) : Int)] w (Ret w fun v _ => v = CellV pl (tenI pl) (tenI pl)) := by
  have ha12 : a.natAbs < 10 ^ 12 := by subst h0; decide
  have q := q9_12 ha12 hb hb12
  have hz := zero_q hb h0
  have hrt : rightB pl a b (-20) 1 20 1 = true := rightB_ok hp (by omega) (by omega)
  refine Exp_ok (fun W e => ?_) ht
  exact cell_at2 (lb := []) ten_fl.1 ten_fl.2 rfl q ha12 hb12 q20n q9_20n q20p q9_20p q11 q9l1 hrt hp hz (ht.ext e)
end
section
variable {n d pl : Nat} {f c : Int} {w : World}
theorem qlog1 : (([49], nS (10 ^ 13)) : R) = qR 1 10000000000000 := by decide +kernel
theorem q9log : Q9 1 10000000000000 := ⟨by decide, by decide, by decide⟩
def logBd (pl n d : Nat) (k : Nat) : Option (Int × Int) := lgB (10 ^ (pl + k)) n d
theorem log_q (hn : 0 < n) (hn12 : n < 10 ^ 12) (hd : 0 < d) (hd12 : d < 10 ^ 12) (h1 : n ≠ d) (hp : pl ≤ 12) (hF : FindR pl (logBd pl n d) f c) (ht : Tb w) :
    Calls Tryz.prog 27 #[.agg #[S (qR (n : Int) (d : Int)).1, S (qR (n : Int) (d : Int)).2], .int .i64 ((pl : Nat) : Int)] w (Ret w fun v _ => v = CellV pl f c) := by
  have ha12 : (n : Int).natAbs < 10 ^ 12 := by omega
  have hb12 : (d : Int) < 10 ^ 12 := by omega
  have hb : 0 < (d : Int) := by omega
  have q := q9_12 ha12 hb hb12
  refine Log_ok (fun W b1 e hB => cell_find (lb := [.pointer (some ⟨b1, 0, none⟩)]) hF rfl q ha12 hb12 qlog1 q9log qp13 q9p13 (rightB_ok hp (by omega) (by omega)) hp (qR_ne hb (by decide) q11 (by omega)) en1036 ?_ (ht.ext e)) ht
  intro k r hk hr W' e'
  exact logB_ok (sc_pow (by omega)) hr (hB.ext e') ((ht.ext e).ext e')
theorem log_one (hn : 0 < n) (hn12 : n < 10 ^ 12) (hd : n = d) (hp : pl ≤ 12) (ht : Tb w) :
    Calls Tryz.prog 27 #[.agg #[S (qR (n : Int) (d : Int)).1, S (qR (n : Int) (d : Int)).2], .int .i64 ((pl : Nat) : Int)] w (Ret w fun v _ => v = CellV pl 0 0) := by
  have ha12 : (n : Int).natAbs < 10 ^ 12 := by omega
  have hb12 : (d : Int) < 10 ^ 12 := by omega
  have hb : 0 < (d : Int) := by omega
  have q := q9_12 ha12 hb hb12
  have hz : (((qR (n : Int) (d : Int)).1, (qR (n : Int) (d : Int)).2) : R) = ([49], [49]) := by
    have h : qR (n : Int) (d : Int) = qR 1 1 := qR_congr hb (by decide) (by omega)
    rw [q11, ← h]
  have hrt : rightB pl (n : Int) (d : Int) 1 10000000000000 10000000000000 1 = true := rightB_ok hp (by omega) (by omega)
  have e0 : flI 0 1 (tenI pl) = 0 ∧ clI 0 1 (tenI pl) = 0 := by unfold flI clI; simp
  refine Log_ok (fun W b1 e _ => ?_) ht
  exact cell_at2 (lb := [.pointer (some ⟨b1, 0, none⟩)]) e0.1 e0.2 rfl q ha12 hb12 qlog1 q9log qp13 q9p13 q01 q9l0 hrt hp hz (ht.ext e)
end
section
variable {a b : Int} {pl : Nat} {f c : Int} {w : World}
def nrmBd (pl : Nat) (a b : Int) (k : Nat) : Option (Int × Int) := nrP (10 ^ (pl + k)) (pl + k) (redN a b) (redD a b).toNat
theorem nrm_right (hb : 0 < b) (h9 : a.natAbs ≤ 1000000 * b.natAbs) (hp : pl ≤ 12) : rightB pl a b (-10000000000000) 1 10000000000000 1 = true := rightB_ok hp (by omega) (by omega)
theorem normal_q (ha12 : a.natAbs < 10 ^ 12) (hb : 0 < b) (hb12 : b < 10 ^ 12) (h0 : a ≠ 0) (hlo : -8 * b < a) (hhi : a < 8 * b) (hp : pl ≤ 12) (hF : FindR pl (nrmBd pl a b) f c) (ht : Tb w) :
    Calls Tryz.prog 18 #[.agg #[S (qR a b).1, S (qR a b).2], .int .i64 ((pl : Nat) : Int)] w (Ret w fun v _ => v = CellV pl f c) := by
  have q := q9_12 ha12 hb hb12
  have hrt := nrm_right (a := a) (pl := pl) hb (by omega) hp
  refine Normal_ok rfl q ha12 hb12 hrt (cmpI_gt0 (by omega)) (cmpI_lt0 (by omega)) (fun W e => cell_find (lb := []) hF rfl q ha12 hb12 qn13 q9n13 qp13 q9p13 hrt hp (qR_ne hb (by decide) q01 (by omega)) en1051 ?_ (ht.ext e)) ht
  intro k r hk hr W' e'
  rw [qR_str hb]
  exact normal_ok (sc_pow (by omega)) (by omega) hr ((ht.ext e).ext e')
theorem normal_z (hb : 0 < b) (hb12 : b < 10 ^ 12) (h0 : a = 0) (hp : pl ≤ 12) (ht : Tb w) :
    Calls Tryz.prog 18 #[.agg #[S (qR a b).1, S (qR a b).2], .int .i64 ((pl : Nat) : Int)] w (Ret w fun v _ => v = CellV pl (flI 1 2 (tenI pl)) (clI 1 2 (tenI pl))) := by
  have ha12 : a.natAbs < 10 ^ 12 := by subst h0; decide
  have q := q9_12 ha12 hb hb12
  have hz := zero_q hb h0
  have hrt := nrm_right (a := a) (pl := pl) hb (by omega) hp
  have q2 : Q9 1 2 := ⟨by decide, by decide, by decide⟩
  refine Normal_ok rfl q ha12 hb12 hrt (cmpI_gt0 (by omega)) (cmpI_lt0 (by omega)) (fun W e => ?_) ht
  exact cell_at2 (lb := []) rfl rfl rfl q ha12 hb12 qn13 q9n13 qp13 q9p13 q12 q2 hrt hp hz (ht.ext e)
theorem neg_q (hb : 0 < b) : neg (qR a b).1 = decide (a < 0) := by
  show neg (showI (redN a b)) = _
  rw [neg_showI]
  have h1 := rq_n (n := a) hb
  have h2 := gcd_pos (n := a) hb
  generalize ((Int.gcd a b : Nat) : Int) = g at *
  generalize redN a b = x at *
  subst h1
  by_cases h : x < 0
  · rw [decide_eq_true h, decide_eq_true (Int.mul_neg_of_neg_of_pos h h2)]
  · rw [decide_eq_false h, decide_eq_false (by have := Int.mul_nonneg (show 0 ≤ x by omega) (Int.le_of_lt h2); omega)]
theorem normal_lo (ha12 : a.natAbs < 10 ^ 12) (hb : 0 < b) (hb12 : b < 10 ^ 12) (hlo : a ≤ -8 * b) (h9 : a.natAbs ≤ 1000000 * b.natAbs) (hp : pl ≤ 12) (ht : Tb w) :
    Calls Tryz.prog 18 #[.agg #[S (qR a b).1, S (qR a b).2], .int .i64 ((pl : Nat) : Int)] w (Ret w fun v _ => v = CellV pl 0 1) := by
  have h := Normal_lo (l := (qR a b).1) (m := (qR a b).2) rfl (q9_12 ha12 hb hb12) ha12 hb12 hp (nrm_right hb h9 hp) (cmpI_ngt (by omega)) ((neg_q hb).trans (decide_eq_true (by omega))) ht
  have e : (([48], [49]) : R) = qR 0 (tenI pl) := q01.trans (qR_congr (by decide) (ten_pos pl) (by omega))
  rw [show ([48] : List UInt8) = (qR 0 (tenI pl)).1 from congrArg Prod.fst e, show ([49] : List UInt8) = (qR 0 (tenI pl)).2 from congrArg Prod.snd e] at h
  exact h
theorem normal_hi (ha12 : a.natAbs < 10 ^ 12) (hb : 0 < b) (hb12 : b < 10 ^ 12) (hhi : 8 * b ≤ a) (h9 : a.natAbs ≤ 1000000 * b.natAbs) (hp : pl ≤ 12) (ht : Tb w) :
    Calls Tryz.prog 18 #[.agg #[S (qR a b).1, S (qR a b).2], .int .i64 ((pl : Nat) : Int)] w (Ret w fun v _ => v = CellV pl (tenI pl - 1) (tenI pl)) := by
  have h := Normal_hi (l := (qR a b).1) (m := (qR a b).2) rfl (q9_12 ha12 hb hb12) ha12 hb12 hp (nrm_right hb h9 hp) (cmpI_gt0 (by omega)) (cmpI_nlt (by omega)) ((neg_q hb).trans (decide_eq_false (by omega))) ht
  have hT := ten_pos pl
  have e : (([49], [49]) : R) = qR (tenI pl) (tenI pl) := q11.trans (qR_congr (by decide) hT (by omega))
  have e1 : ([49] : List UInt8) = (qR (tenI pl) (tenI pl)).1 := congrArg Prod.fst e
  have e2 : ([49] : List UInt8) = (qR (tenI pl) (tenI pl)).2 := congrArg Prod.snd e
  rw [Int.one_mul, Int.one_mul] at h
  unfold CellV
  rw [← e1, ← e2]
  exact h
end
end Go.Proofs.YtjijfnggomhpiaaGreatDoor
namespace Go.Proofs.YtjijfnggomhpiaaGreatDoor
set_option maxRecDepth 100000
open Go Go.Eng Go.RowKit
attribute [local irreducible] wpListIn Code.wpIn Oper.wpIn Exit.then Exit.inBlock Exit.noGoto
set_option maxHeartbeats 40000000
def chiBd (pl fr n d : Nat) (k : Nat) : Option (Int × Int) := tlP (10 ^ (pl + k)) (pl + k) n d fr
theorem q100 : (([49, 48, 48], [49]) : R) = qR 100 1 := by decide +kernel
theorem q9_100 : Q9 100 1 := ⟨by decide, by decide, by decide⟩
theorem chi_q {fr n d pl : Nat} {f c : Int} {w : World} (h1 : 0 < fr) (h20 : fr ≤ 20) (hn : 0 < n) (hn12 : n < 10 ^ 12) (hd : 0 < d) (hd12 : d < 10 ^ 12) (h100 : n ≤ 100 * d) (hp : pl ≤ 12) (hF : FindR pl (chiBd pl fr n d) f c) (ht : Tb w) :
    Calls Tryz.prog 15 #[.agg #[S (qR (n : Int) (d : Int)).1, S (qR (n : Int) (d : Int)).2], .int .i64 fr, .int .i64 pl] w (Ret w fun v _ => v = CellV pl f c) := by
  have ha12 : (n : Int).natAbs < 10 ^ 12 := by omega
  have hb12 : (d : Int) < 10 ^ 12 := by omega
  have hb : 0 < (d : Int) := by omega
  have q := q9_12 ha12 hb hb12
  refine Chi_ok h1 h20 (fun W b1 e hB => cell_find (lb := [.pointer (some ⟨b1, 0, none⟩)]) hF rfl q ha12 hb12 q01 q9l0 q100 q9_100 (rightB_ok hp om om) hp (qR_ne hb dc q01 om) en1058 ?_ (ht.ext e)) ht
  intro k r hk hr W' e'
  exact chiB_ok (sc_pow om) om h1 h20 hr (hB.ext e') ((ht.ext e).ext e')
set_option maxRecDepth 10000 in
theorem se1 : FindR 3 (expBd 3 1 1) 2718 2719 := ⟨by decide, Or.inl ⟨(2718281828459045209, 2718281828459045273), by decide +kernel, by decide +kernel, by decide +kernel, by decide +kernel, by decide +kernel, by decide +kernel, by decide +kernel, by decide +kernel, by decide +kernel⟩⟩
theorem se2 : FindR 6 (logBd 6 1 2) (-693148) (-693147) := ⟨by decide, Or.inl ⟨(-693147180559945309470, -693147180559945309376), by decide +kernel, by decide +kernel, by decide +kernel, by decide +kernel, by decide +kernel, by decide +kernel, by decide +kernel, by decide +kernel, by decide +kernel⟩⟩
theorem se3 : FindR 6 (nrmBd 6 (-3) 1) 1349 1350 := ⟨by decide, Or.inl ⟨(1349898031630094487, 1349898031630094600), by decide +kernel, by decide +kernel, by decide +kernel, by decide +kernel, by decide +kernel, by decide +kernel, by decide +kernel, by decide +kernel, by decide +kernel⟩⟩
theorem se4 : FindR 6 (chiBd 6 1 1 1) 317310 317311 := ⟨by decide, Or.inl ⟨(317310507862914102816, 317310507862914102840), by decide +kernel, by decide +kernel, by decide +kernel, by decide +kernel, by decide +kernel, by decide +kernel, by decide +kernel, by decide +kernel, by decide +kernel⟩⟩
theorem se5 : qnF (((10 ^ 3 : Nat) : Int)) 39 40 100 (-5 * ((10 ^ 3 : Nat) : Int)) (5 * ((10 ^ 3 : Nat) : Int)) = some (1959, 1960) := by decide +kernel
section
variable {w : World}
theorem sa_exp (ht : Tb w) : Calls Tryz.prog 16 #[.agg #[S (qR 1 1).1, S (qR 1 1).2], .int .i64 3] w (Ret w fun v _ => v = CellV 3 2718 2719) := exp_q (pl := 3) dc dc dc dc dc dc dc se1 ht
theorem sa_log (ht : Tb w) : Calls Tryz.prog 27 #[.agg #[S (qR 1 2).1, S (qR 1 2).2], .int .i64 6] w (Ret w fun v _ => v = CellV 6 (-693148) (-693147)) := log_q (pl := 6) (n := 1) (d := 2) dc dc dc dc dc dc se2 ht
theorem sa_nrm (ht : Tb w) : Calls Tryz.prog 18 #[.agg #[S (qR (-3) 1).1, S (qR (-3) 1).2], .int .i64 6] w (Ret w fun v _ => v = CellV 6 1349 1350) := normal_q (pl := 6) dc dc dc dc dc dc dc se3 ht
theorem sa_chi (ht : Tb w) : Calls Tryz.prog 15 #[.agg #[S (qR 1 1).1, S (qR 1 1).2], .int .i64 1, .int .i64 6] w (Ret w fun v _ => v = CellV 6 317310 317311) := chi_q (fr := 1) (pl := 6) (n := 1) (d := 1) dc dc dc dc dc dc dc dc se4 ht
theorem q_half : ¬ qR 39 40 = (([49], [50]) : R) := by decide +kernel
theorem sa_qt (ht : Tb w) : Calls Tryz.prog 28 #[.agg #[S (qR 39 40).1, S (qR 39 40).2], .int .i64 3] w (Ret w fun v _ => v = CellV 3 1959 1960) := Quantile_ok (a := 39) (b := 40) (pl := 3) (q9_12 dc dc dc) dc dc dc (rightB_ok dc dc dc) q_half se5 ht
theorem sa_n0 (ht : Tb w) : Calls Tryz.prog 18 #[.agg #[S (qR 0 1).1, S (qR 0 1).2], .int .i64 2] w (Ret w fun v _ => v = CellV 2 50 50) := normal_z (pl := 2) dc dc rfl dc ht
theorem rt_f1 : rightB 6 0 1 1 10000000000000 10000000000000 1 = false := by decide +kernel
theorem rt_f2 : rightB 13 1 1 (-20) 1 20 1 = false := by decide +kernel
def ErrV : Value := .tuple #[.agg #[S [], S [], S [], S []], .int .i64 60]
theorem sa_l0 (ht : Tb w) : Calls Tryz.prog 27 #[.agg #[S (qR 0 1).1, S (qR 0 1).2], .int .i64 6] w (Ret w fun v _ => v = ErrV) :=
  Log_ok (pl := 6) (fun W b1 e _ => cell_no (lb := [.pointer (some ⟨b1, 0, none⟩)]) rfl q9l0 dc dc qlog1 q9log qp13 q9p13 rt_f1 (ht.ext e)) ht
theorem sa_e13 (ht : Tb w) : Calls Tryz.prog 16 #[.agg #[S (qR 1 1).1, S (qR 1 1).2], .int .i64 13] w (Ret w fun v _ => v = ErrV) :=
  Exp_ok (pl := 13) (fun W e => cell_no (lb := []) rfl q9l1 dc dc q20n q9_20n q20p q9_20p rt_f2 (ht.ext e)) ht
end
theorem half_50 : ((qR 50 (tenI 2), qR 50 (tenI 2)) : R × R) = (qR 1 2, qR 1 2) := by rw [show qR 50 (tenI 2) = qR 1 2 from qR_congr (ten_pos 2) dc dc]
theorem fl_self {f T : Int} (hT : 0 < T) : flI f T T = f := by unfold flI; exact Int.mul_ediv_cancel _ om
theorem cl_self {f T : Int} (hT : 0 < T) : clI f T T = f := by unfold clI; rw [if_pos (Int.mul_emod_left _ _)]; exact Int.mul_ediv_cancel _ om
theorem w_cases {f c : Int} {pl : Nat} (h1 : f ≤ c) (h2 : c ≤ f + 1) : qR (c * tenI pl - f * tenI pl) (tenI pl * tenI pl) = qR 0 1 ∨ (¬ qR (c * tenI pl - f * tenI pl) (tenI pl * tenI pl) = qR 0 1 ∧ qR (c * tenI pl - f * tenI pl) (tenI pl * tenI pl) = qR 1 (tenI pl)) := by
  have hT := ten_pos pl
  have hTT := Int.mul_pos hT hT
  by_cases h : c = f
  · left; subst h; exact qR_congr hTT dc om
  · right
    have hc : c = f + 1 := by omega
    subst hc
    refine ⟨fun e => ?_, qR_congr hTT hT (by rw [← Int.sub_mul, show f + 1 - f = 1 by omega, Int.one_mul, Int.one_mul])⟩
    have := qR_inj hTT dc e
    rw [← Int.sub_mul, show f + 1 - f = 1 by omega] at this
    omega
theorem cell6_ok {x : R × R} {n : Int} {pl : Nat} {w : World} (hp : pl ≤ 12) (h1 : -1000000000000 ≤ n) (h2 : n ≤ 1000000000000) (ht : Tb w) :
    Calls Tryz.prog 29 #[.agg #[S (x.1.1), S (x.1.2), S (x.2.1), S (x.2.2)], .int .i64 (n), .int .i64 pl] w (Ret w fun v w' => v = .bool (decide (x = (qR n (tenI pl), qR (n + 1) (tenI pl))))) := by
 have hten := ten_le12 hp;refine f_in Tryz.func29 rfl ?_;refine go ?_;refine bx (fun ao6 aos r8 => ?_);have sc := aos.2;refine go ?_;refine c_an 11 ?_;refine sf_ap (fun ao7 ao8 aot ao9 => by have r8 := be aot r8;refine l_op (k_loadA (cs := [S (x.1.1), S (x.1.2), S (x.2.1), S (x.2.2)]) (b := w.heap.size) (o := 0) U1032 rfl sz1032 rfl (Blk.cells r8 (i := 0) rfl) ?_);refine go ?_;exact finp) ?_;refine sf ?_;refine sf_ae (V := .int .i64 (tenI (pl))) (fun apg aph aow api => ?_) ?_;refine cl en5036 (ten_ok (pl := (pl)) hp) ?_;rintro apj apk aol rfl;have aox := aol.2;refine go ?_;exact fs ⟨aox, rfl⟩;refine sf_ae (V := .agg #[S ((qR n (tenI (pl))).1), S ((qR n (tenI (pl))).2)]) (fun apl apm aom apn => ?_) ?_;refine clb en5011 (hc := lOf_ok (by unfold In64; omega) (by unfold In64; omega) om (ht.ext (xt sc aom))) (hk := ?_);rintro apo apq aon rfl;have aoy := aon.2;refine go ?_;exact fs ⟨aoy, rfl⟩;refine sf ?_;refine sf_ap (fun apu apv ao0 apw => by refine adi ?_;refine go ?_;exact finp) ?_;refine sf ?_;refine sf_ae (V := .int .i64 (tenI (pl))) (fun ap0 ap1 ao2 ap2 => ?_) ?_;refine cl en5036 (ten_ok (pl := (pl)) hp) ?_;rintro ap3 ap4 aoo rfl;have ao3 := aoo.2;refine go ?_;exact fs ⟨ao3, rfl⟩;refine sf_ae (V := .agg #[S ((qR (n + 1) (tenI (pl))).1), S ((qR (n + 1) (tenI (pl))).2)]) (fun ap5 ap6 aop ap7 => ?_) ?_;refine clb en5011 (hc := lOf_ok (by unfold In64; omega) (by unfold In64; omega) om (ht.ext (xt sc aop))) (hk := ?_);rintro ap8 ap9 aoq rfl
 have ao4 := aoq.2;refine go ?_;exact fs ⟨ao4, rfl⟩;refine sf_ap (fun aqa aqb ao5 aqc => by refine l_op (k_build (vs := [(0, .agg #[S ((qR n (tenI (pl))).1), S ((qR n (tenI (pl))).2)]), (1, .agg #[S ((qR (n + 1) (tenI (pl))).1), S ((qR (n + 1) (tenI (pl))).2)])]) (cells := #[S ((qR n (tenI (pl))).1), S ((qR n (tenI (pl))).2), S ((qR (n + 1) (tenI (pl))).1), S ((qR (n + 1) (tenI (pl))).2)]) (pl := [(0, 2), (2, 2)]) U1032 inf1032 (by kernel_rfl) rfl (by kernel_rfl) ?_);refine go ?_;exact finp) ?_
 refine sf ?_;intro aqd aqe aor aqf;have sc := xt sc aor.2;refine l_op (k_eqlI (a := (x.1, x.2)) (b := (qR n (tenI (pl)), qR (n + 1) (tenI (pl)))) (q := decide ((x.1, x.2) = (qR n (tenI (pl)), qR (n + 1) (tenI (pl))))) rfl rfl rfl ?_);refine go ?_;exact f_ret1 (t := 6) (v := .bool (decide ((x.1, x.2) = (qR n (tenI (pl)), qR (n + 1) (tenI (pl)))))) rfl sc rfl rfl
theorem grid0_ok {f c : Int} {pl : Nat} {w : World} (hp : pl ≤ 12) (q1 : Q9 f (tenI pl)) (q2 : Q9 c (tenI pl)) (h1 : f ≤ c) (hw : qR (c * tenI pl - f * tenI pl) (tenI pl * tenI pl) = qR 0 1) (ht : Tb w) :
    Calls Tryz.prog 12 #[.agg #[S ((qR f (tenI pl)).1), S ((qR f (tenI pl)).2), S ((qR c (tenI pl)).1), S ((qR c (tenI pl)).2)], .int .i64 pl] w (Ret w fun v w' => v = .bool true) := by
 have hten := ten_le12 hp;refine f_in Tryz.func12 rfl ?_;refine go ?_;refine bx (fun apl aph r8 => ?_);have aom := aph.2;refine go ?_;refine l_op (k_loadA (cs := [S ((qR f (tenI pl)).1), S ((qR f (tenI pl)).2), S ((qR c (tenI pl)).1), S ((qR c (tenI pl)).2)]) (b := w.heap.size) (o := 0) U1032 rfl sz1032 rfl (Blk.cells r8 (i := 0) rfl) ?_);refine go ?_;refine clb en1048 (hc := cEq (Y := .tuple #[.agg #[S ((qR f (tenI pl)).1), S ((qR f (tenI pl)).2), S ((qR c (tenI pl)).1), S ((qR c (tenI pl)).2)], .int .i64 0]) (round_ok (x := (qR f (tenI pl), qR c (tenI pl))) rfl rfl q1 q2 (Int.mul_le_mul_of_nonneg_right h1 om) om (ht.ext aom)) (by rw [fl_self hten.2, cl_self hten.2])) (hk := ?_);rintro apm apd ape rfl;have r8 := be ape.2 r8;have aom := xt aom ape.2;refine go ?_;refine al inf1032 (fun apn apf api => ?_);have r8 := be apf.2 r8;have aom := xt aom apf.2;refine SA api (fun apo aor sc => ?_);have r8 := pb aor r8;have aom := plw aor aom;have apq := psz aor;refine go ?_;refine l_op (k_loadA (cs := [S ((qR f (tenI pl)).1), S ((qR f (tenI pl)).2), S ((qR c (tenI pl)).1), S ((qR c (tenI pl)).2)]) (b := w.heap.size) (o := 0) U1032 rfl sz1032 rfl (Blk.cells r8 (i := 0) rfl) ?_);refine clb en1049 (hc := width_ok (x := (qR f (tenI pl), qR c (tenI pl))) rfl rfl q1 q2 (Int.mul_le_mul_of_nonneg_right h1 om) (ht.ext aom)) (hk := ?_);rintro apr apg aos rfl;have r8 := be aos.2 r8;have sc := be aos.2 sc
 have aom := xt aom aos.2;refine go ?_;refine al inf36 (fun aps aot apj => ?_);have r8 := be aot.2 r8;have sc := be aot.2 sc;have aom := xt aom aot.2;refine SA apj (fun apt aon aol => ?_);have r8 := pb aon r8;have sc := pb aon sc;have aom := plw aon aom;have apu := psz aon;refine go ?_;refine c_an 20 ?_;refine sf ?_;refine sf_ap (fun aqg aqh ao1 aqi => by have r8 := be ao1 r8;refine go ?_;refine l_op (k_loadA (cs := [S ((qR f (tenI pl)).1), S ((qR f (tenI pl)).2), S ((qR c (tenI pl)).1), S ((qR c (tenI pl)).2)]) (b := w.heap.size) (o := 0) U1032 rfl sz1032 rfl (Blk.cells r8 (i := 0) rfl) ?_);refine go ?_;exact finp) ?_
 refine sf_ap (fun aqj aqk ao2 aql => by have sc := be ao2 sc;refine go ?_;refine l_op (k_loadA (cs := [S ((qR f (tenI pl)).1), S ((qR f (tenI pl)).2), S ((qR c (tenI pl)).1), S ((qR c (tenI pl)).2)]) (b := apd.heap.size) (o := 0) U1032 rfl sz1032 rfl (Blk.cells sc (i := 0) rfl) ?_);refine go ?_;exact finp) ?_
 refine sf_ap (fun aqm aqn ao3 aqo => by refine go ?_;refine l_op (k_eqlI (a := (qR f (tenI pl), qR c (tenI pl))) (b := (qR f (tenI pl), qR c (tenI pl))) (q := true) rfl rfl (decide_eq_true (rfl)) ?_);refine go ?_;exact finp) ?_
 refine sf ?_;refine sf_ae (V := .agg #[S ((qR 0 1).1), S ((qR 0 1).2)]) (fun aqy aqz aoo aq0 => ?_) ?_;refine go ?_;refine clb en5011 (hc := lOf_ok (by unfold In64; omega) (by unfold In64; omega) om (ht.ext (xt aom aoo))) (hk := ?_);rintro aq1 aq2 aop rfl;have apk := aop.2;refine go ?_;exact fs ⟨apk, rfl⟩;refine sf_ap (fun aq3 aq4 ao7 aq5 => by refine go ?_;refine l_op (k_eqlR (a := qR (c * tenI pl - f * tenI pl) (tenI pl * tenI pl)) (b := qR 0 1) (q := true) rfl rfl (decide_eq_true (hw)) ?_);refine go ?_;exact finp) ?_;refine sf ?_;intro arn aro aoq arp;have aom := xt aom aoq.2;with_reducible refine l_drop rfl ?_
 refine go ?_;exact f_ret1 (t := 4) (v := .bool (true)) rfl aom rfl rfl
theorem grid1_ok {f c : Int} {pl : Nat} {w : World} (hp : pl ≤ 12) (q1 : Q9 f (tenI pl)) (q2 : Q9 c (tenI pl)) (h1 : f ≤ c) (hn : ¬ qR (c * tenI pl - f * tenI pl) (tenI pl * tenI pl) = qR 0 1) (hw : qR (c * tenI pl - f * tenI pl) (tenI pl * tenI pl) = qR 1 (tenI pl)) (ht : Tb w) :
    Calls Tryz.prog 12 #[.agg #[S ((qR f (tenI pl)).1), S ((qR f (tenI pl)).2), S ((qR c (tenI pl)).1), S ((qR c (tenI pl)).2)], .int .i64 pl] w (Ret w fun v w' => v = .bool true) := by
 have hten := ten_le12 hp;refine f_in Tryz.func12 rfl ?_;refine go ?_;refine bx (fun apq apj r8 => ?_);have aom := apj.2;refine go ?_;refine l_op (k_loadA (cs := [S ((qR f (tenI pl)).1), S ((qR f (tenI pl)).2), S ((qR c (tenI pl)).1), S ((qR c (tenI pl)).2)]) (b := w.heap.size) (o := 0) U1032 rfl sz1032 rfl (Blk.cells r8 (i := 0) rfl) ?_);refine go ?_;refine clb en1048 (hc := cEq (Y := .tuple #[.agg #[S ((qR f (tenI pl)).1), S ((qR f (tenI pl)).2), S ((qR c (tenI pl)).1), S ((qR c (tenI pl)).2)], .int .i64 0]) (round_ok (x := (qR f (tenI pl), qR c (tenI pl))) rfl rfl q1 q2 (Int.mul_le_mul_of_nonneg_right h1 om) om (ht.ext aom)) (by rw [fl_self hten.2, cl_self hten.2])) (hk := ?_);rintro apr apg aph rfl;have r8 := be aph.2 r8;have aom := xt aom aph.2;refine go ?_;refine al inf1032 (fun aps api apk => ?_);have r8 := be api.2 r8;have aom := xt aom api.2;refine SA apk (fun apt aou sc => ?_);have r8 := pb aou r8;have aom := plw aou aom;have apu := psz aou;refine go ?_;refine l_op (k_loadA (cs := [S ((qR f (tenI pl)).1), S ((qR f (tenI pl)).2), S ((qR c (tenI pl)).1), S ((qR c (tenI pl)).2)]) (b := w.heap.size) (o := 0) U1032 rfl sz1032 rfl (Blk.cells r8 (i := 0) rfl) ?_);refine clb en1049 (hc := width_ok (x := (qR f (tenI pl), qR c (tenI pl))) rfl rfl q1 q2 (Int.mul_le_mul_of_nonneg_right h1 om) (ht.ext aom)) (hk := ?_);rintro apv aov aow rfl;have r8 := be aow.2 r8;have sc := be aow.2 sc
 have aom := xt aom aow.2;refine go ?_;refine al inf36 (fun apw aox apl => ?_);have r8 := be aox.2 r8;have sc := be aox.2 sc;have aom := xt aom aox.2;refine SA apl (fun apx aon aol => ?_);have r8 := pb aon r8;have sc := pb aon sc;have aom := plw aon aom;have apy := psz aon;refine go ?_;refine c_an 20 ?_;refine sf ?_;refine sf_ap (fun aqk aql ao5 aqm => by have r8 := be ao5 r8;refine go ?_;refine l_op (k_loadA (cs := [S ((qR f (tenI pl)).1), S ((qR f (tenI pl)).2), S ((qR c (tenI pl)).1), S ((qR c (tenI pl)).2)]) (b := w.heap.size) (o := 0) U1032 rfl sz1032 rfl (Blk.cells r8 (i := 0) rfl) ?_);refine go ?_;exact finp) ?_
 refine sf_ap (fun aqn aqo ao6 aqp => by have sc := be ao6 sc;refine go ?_;refine l_op (k_loadA (cs := [S ((qR f (tenI pl)).1), S ((qR f (tenI pl)).2), S ((qR c (tenI pl)).1), S ((qR c (tenI pl)).2)]) (b := apg.heap.size) (o := 0) U1032 rfl sz1032 rfl (Blk.cells sc (i := 0) rfl) ?_);refine go ?_;exact finp) ?_
 refine sf_ap (fun aqq aqr ao7 aqs => by refine go ?_;refine l_op (k_eqlI (a := (qR f (tenI pl), qR c (tenI pl))) (b := (qR f (tenI pl), qR c (tenI pl))) (q := true) rfl rfl (decide_eq_true (rfl)) ?_);refine go ?_;exact finp) ?_
 refine sf ?_;refine sf_ae (V := .agg #[S ((qR 0 1).1), S ((qR 0 1).2)]) (fun aq2 aq3 aoo aq4 => ?_) ?_;refine go ?_;refine clb en5011 (hc := lOf_ok (by unfold In64; omega) (by unfold In64; omega) om (ht.ext (xt aom aoo))) (hk := ?_);rintro aq5 aq6 aop rfl;have apm := aop.2;refine go ?_;exact fs ⟨apm, rfl⟩;refine sf_ap (fun aq7 aq8 apb aq9 => by refine go ?_;refine l_op (k_eqlR (a := qR (c * tenI pl - f * tenI pl) (tenI pl * tenI pl)) (b := qR 0 1) (q := false) rfl rfl (decide_eq_false (hn)) ?_);refine go ?_;exact finp) ?_;refine sf ?_;refine sf_ae (V := .int .i64 (tenI (pl))) (fun arl arm apf arn => ?_) ?_;refine go ?_;refine cl en5036 (ten_ok (pl := (pl)) hp) ?_;rintro aro arp aoq rfl;have apn := aoq.2;refine go ?_;exact fs ⟨apn, rfl⟩;refine sf_ae (V := .agg #[S ((qR 1 (tenI (pl))).1), S ((qR 1 (tenI (pl))).2)]) (fun arq arr aor ars => ?_) ?_;refine go ?_;refine clb en5011 (hc := lOf_ok (by unfold In64; omega) (by unfold In64; omega) om (ht.ext (xt aom aor))) (hk := ?_);rintro art aru aos rfl;have apo := aos.2;refine go ?_;exact fs ⟨apo, rfl⟩;refine sf ?_;intro arv arw aot arx;have aom := xt aom aot.2;with_reducible refine l_drop rfl ?_
 refine go ?_;refine l_op (k_eqlR (a := qR (c * tenI pl - f * tenI pl) (tenI pl * tenI pl)) (b := qR 1 (tenI (pl))) (q := true) rfl rfl (decide_eq_true (hw)) ?_);refine go ?_;exact f_ret1 (t := 4) (v := .bool (true)) rfl aom rfl rfl
theorem grid_ok {f c : Int} {pl : Nat} {w : World} (hp : pl ≤ 12) (q1 : Q9 f (tenI pl)) (q2 : Q9 c (tenI pl)) (h1 : f ≤ c) (h2 : c ≤ f + 1) (ht : Tb w) : Calls Tryz.prog 12 #[.agg #[S ((qR f (tenI pl)).1), S ((qR f (tenI pl)).2), S ((qR c (tenI pl)).1), S ((qR c (tenI pl)).2)], .int .i64 pl] w (Ret w fun v _ => v = .bool true) := by
  rcases w_cases (pl := pl) h1 h2 with hw | ⟨hn, hw⟩
  · exact grid0_ok hp q1 q2 h1 hw ht
  · exact grid1_ok hp q1 q2 h1 hn hw ht
theorem sane6_ok {w : World} (ht : Tb w) :
    Calls Tryz.prog 6 #[] w (Ret w fun v w' => v = .bool true) := by
 refine f_in Tryz.func6 rfl ?_;refine go ?_;refine clb en5011 (hc := lOf_ok (by unfold In64; decide) (by unfold In64; decide) dc (ht.ext (Ext.refl _))) (hk := ?_);rintro ara arb aqq rfl;have aoo := aqq.2;refine cl en1010 (sa_exp (ht.ext aoo)) ?_;rintro arc aqg aqr rfl;have aoo := xt aoo aqr.2;refine go ?_;refine al inf1032 (fun ard aqs aqt => ?_);have aoo := xt aoo aqs.2;refine SA aqt (fun arf aqh r8 => ?_);have aoo := plw aqh aoo;have arh := psz aqh;refine go ?_;refine clb en5011 (hc := lOf_ok (by unfold In64; decide) (by unfold In64; decide) dc (ht.ext aoo)) (hk := ?_);rintro ari arj aqi rfl;have r8 := be aqi.2 r8;have aoo := xt aoo aqi.2;refine cl en1013 (sa_log (ht.ext aoo)) ?_;rintro ark aqj aqk rfl;have r8 := be aqk.2 r8;have aoo := xt aoo aqk.2;refine go ?_;refine al inf1032 (fun arl aql aqu => ?_);have r8 := be aql.2 r8;have aoo := xt aoo aql.2;refine SA aqu (fun arm aqc sc => ?_);have r8 := pb aqc r8;have aoo := plw aqc aoo;have arn := psz aqc;refine go ?_;refine clb en5011 (hc := lOf_ok (by unfold In64; decide) (by unfold In64; decide) dc (ht.ext aoo)) (hk := ?_);rintro aro arp aqd rfl;have r8 := be aqd.2 r8;have sc := be aqd.2 sc;have aoo := xt aoo aqd.2;refine cl en1017 (sa_nrm (ht.ext aoo)) ?_;rintro arq aqm aqe rfl;have r8 := be aqe.2 r8;have sc := be aqe.2 sc;have aoo := xt aoo aqe.2;refine go ?_
 refine al inf1032 (fun arr aqf aqv => ?_);have r8 := be aqf.2 r8;have sc := be aqf.2 sc;have aoo := xt aoo aqf.2;refine SA aqv (fun ars ap8 aol => ?_);have r8 := pb ap8 r8;have sc := pb ap8 sc;have aoo := plw ap8 aoo;have art := psz ap8;refine go ?_;refine clb en5011 (hc := lOf_ok (by unfold In64; decide) (by unfold In64; decide) dc (ht.ext aoo)) (hk := ?_);rintro aru arv ap9 rfl;have r8 := be ap9.2 r8;have sc := be ap9.2 sc;have aol := be ap9.2 aol;have aoo := xt aoo ap9.2;refine cl en1021 (sa_chi (ht.ext aoo)) ?_;rintro arw aqn aqa rfl;have r8 := be aqa.2 r8;have sc := be aqa.2 sc;have aol := be aqa.2 aol;have aoo := xt aoo aqa.2;refine go ?_;refine al inf1032 (fun arx aqb aqw => ?_);have r8 := be aqb.2 r8;have sc := be aqb.2 sc;have aol := be aqb.2 aol;have aoo := xt aoo aqb.2;refine SA aqw (fun ary ap4 aom => ?_);have r8 := pb ap4 r8;have sc := pb ap4 sc;have aol := pb ap4 aol;have aoo := plw ap4 aoo;have arz := psz ap4;refine go ?_;refine clb en5011 (hc := lOf_ok (by unfold In64; decide) (by unfold In64; decide) dc (ht.ext aoo)) (hk := ?_);rintro ar0 ar1 ap5 rfl;have r8 := be ap5.2 r8;have sc := be ap5.2 sc;have aol := be ap5.2 aol;have aom := be ap5.2 aom;have aoo := xt aoo ap5.2;refine cl en1015 (sa_qt (ht.ext aoo)) ?_;rintro ar2 aqo ap6 rfl
 have r8 := be ap6.2 r8;have sc := be ap6.2 sc;have aol := be ap6.2 aol;have aom := be ap6.2 aom;have aoo := xt aoo ap6.2;refine go ?_;refine al inf1032 (fun ar3 ap7 aqx => ?_);have r8 := be ap7.2 r8;have sc := be ap7.2 sc;have aol := be ap7.2 aol;have aom := be ap7.2 aom;have aoo := xt aoo ap7.2;refine SA aqx (fun ar4 ap0 aon => ?_);have r8 := pb ap0 r8;have sc := pb ap0 sc;have aol := pb ap0 aol;have aom := pb ap0 aom;have aoo := plw ap0 aoo;have ar5 := psz ap0;refine go ?_;refine clb en5011 (hc := lOf_ok (by unfold In64; decide) (by unfold In64; decide) dc (ht.ext aoo)) (hk := ?_);rintro ar6 ar7 ap1 rfl;have r8 := be ap1.2 r8;have sc := be ap1.2 sc;have aol := be ap1.2 aol;have aom := be ap1.2 aom;have aon := be ap1.2 aon;have aoo := xt aoo ap1.2;refine cl en1017 (sa_n0 (ht.ext aoo)) ?_;rintro ar8 aqp ap2 rfl;have r8 := be ap2.2 r8;have sc := be ap2.2 sc;have aol := be ap2.2 aol;have aom := be ap2.2 aom;have aon := be ap2.2 aon;have aoo := xt aoo ap2.2;refine go ?_;refine al inf1032 (fun ar9 ap3 aqy => ?_);have r8 := be ap3.2 r8;have sc := be ap3.2 sc;have aol := be ap3.2 aol;have aom := be ap3.2 aom;have aon := be ap3.2 aon;have aoo := xt aoo ap3.2;refine SA aqy (fun asa apw aop => ?_);have r8 := pb apw r8;have sc := pb apw sc
 have aol := pb apw aol;have aom := pb apw aom;have aon := pb apw aon;have aoo := plw apw aoo;have asb := psz apw;refine go ?_;refine clb en5011 (hc := lOf_ok (by unfold In64; decide) (by unfold In64; decide) dc (ht.ext aoo)) (hk := ?_);rintro asc asd apx rfl;have r8 := be apx.2 r8;have sc := be apx.2 sc;have aol := be apx.2 aol;have aom := be apx.2 aom;have aon := be apx.2 aon;have aop := be apx.2 aop;have aoo := xt aoo apx.2;refine cl en1013 (sa_l0 (ht.ext aoo)) ?_;rintro ase aqz apy rfl;have r8 := be apy.2 r8;have sc := be apy.2 sc;have aol := be apy.2 aol;have aom := be apy.2 aom;have aon := be apy.2 aon;have aop := be apy.2 aop;have aoo := xt aoo apy.2;refine go ?_;refine al inf1032 (fun asf apz aq0 => ?_);have r8 := be apz.2 r8;have sc := be apz.2 sc;have aol := be apz.2 aol;have aom := be apz.2 aom;have aon := be apz.2 aon;have aop := be apz.2 aop;have aoo := xt aoo apz.2;refine SA aq0 (fun asg ao8 aoq => ?_);have r8 := pb ao8 r8;have sc := pb ao8 sc;have aol := pb ao8 aol;have aom := pb ao8 aom;have aon := pb ao8 aon;have aop := pb ao8 aop;have aoo := plw ao8 aoo;have ash := psz ao8;refine go ?_;refine clb en5011 (hc := lOf_ok (by unfold In64; decide) (by unfold In64; decide) dc (ht.ext aoo)) (hk := ?_)
 rintro asi asj ao9 rfl;have r8 := be ao9.2 r8;have sc := be ao9.2 sc;have aol := be ao9.2 aol;have aom := be ao9.2 aom;have aon := be ao9.2 aon;have aop := be ao9.2 aop;have aoq := be ao9.2 aoq;have aoo := xt aoo ao9.2;refine cl en1010 (sa_e13 (ht.ext aoo)) ?_;rintro ask aq1 apa rfl;have r8 := be apa.2 r8;have sc := be apa.2 sc;have aol := be apa.2 aol;have aom := be apa.2 aom;have aon := be apa.2 aon;have aop := be apa.2 aop;have aoq := be apa.2 aoq;have aoo := xt aoo apa.2;refine go ?_;refine al inf1032 (fun asl apb aq2 => ?_);have r8 := be apb.2 r8;have sc := be apb.2 sc;have aol := be apb.2 aol;have aom := be apb.2 aom;have aon := be apb.2 aon;have aop := be apb.2 aop;have aoq := be apb.2 aoq;have aoo := xt aoo apb.2;refine SA aq2 (fun asm aos aor => ?_);have r8 := pb aos r8;have sc := pb aos sc;have aol := pb aos aol;have aom := pb aos aom;have aon := pb aos aon;have aop := pb aos aop;have aoq := pb aos aoq;have aoo := plw aos aoo;have aso := psz aos;refine go ?_;refine c_an 26 ?_;refine sf ?_;refine sf_ap (fun asv asw ape asx => by have r8 := be ape r8;refine go ?_;refine l_op (k_loadA (cs := [S ((qR 2718 (tenI 3)).1), S ((qR 2718 (tenI 3)).2), S ((qR 2719 (tenI 3)).1), S ((qR 2719 (tenI 3)).2)]) (b := aqg.heap.size) (o := 0) U1032 rfl sz1032 rfl (Blk.cells r8 (i := 0) rfl) ?_);refine go ?_;exact finp) ?_
 refine sf_ae (V := .bool (true)) (fun asy asz aot as0 => ?_) ?_;refine go ?_;refine clb en5029 (hc := cEq (Y := .bool true) (cell6_ok (x := ((qR 2718 (tenI 3)), (qR 2719 (tenI 3)))) (pl := 3) dc dc dc (ht.ext (xt aoo aot))) (congrArg Value.bool (decide_eq_true rfl))) (hk := ?_);rintro as1 as2 aou rfl;have aq3 := aou.2;refine go ?_;exact fs ⟨aq3, rfl⟩;refine sf ?_;refine sf_ap (fun as9 ata aph atb => by have sc := be aph sc;refine go ?_;refine l_op (k_loadA (cs := [S ((qR (-693148) (tenI 6)).1), S ((qR (-693148) (tenI 6)).2), S ((qR (-693147) (tenI 6)).1), S ((qR (-693147) (tenI 6)).2)]) (b := aqj.heap.size) (o := 0) U1032 rfl sz1032 rfl (Blk.cells sc (i := 0) rfl) ?_);refine go ?_;exact finp) ?_
 refine sf_ae (V := .bool (true)) (fun atc atd aov ate => ?_) ?_;refine go ?_;refine clb en5029 (hc := cEq (Y := .bool true) (cell6_ok (x := ((qR (-693148) (tenI 6)), (qR (-693147) (tenI 6)))) (pl := 6) dc dc dc (ht.ext (xt aoo aov))) (congrArg Value.bool (decide_eq_true rfl))) (hk := ?_);rintro atf atg aow rfl;have aq4 := aow.2;refine go ?_;exact fs ⟨aq4, rfl⟩;refine sf ?_;refine sf_ap (fun atn ato apk atp => by have aol := be apk aol;refine go ?_;refine l_op (k_loadA (cs := [S ((qR 1349 (tenI 6)).1), S ((qR 1349 (tenI 6)).2), S ((qR 1350 (tenI 6)).1), S ((qR 1350 (tenI 6)).2)]) (b := aqm.heap.size) (o := 0) U1032 rfl sz1032 rfl (Blk.cells aol (i := 0) rfl) ?_);refine go ?_;exact finp) ?_
 refine sf_ae (V := .bool (true)) (fun atq atr aox att => ?_) ?_;refine go ?_;refine clb en5029 (hc := cEq (Y := .bool true) (cell6_ok (x := ((qR 1349 (tenI 6)), (qR 1350 (tenI 6)))) (pl := 6) dc dc dc (ht.ext (xt aoo aox))) (congrArg Value.bool (decide_eq_true rfl))) (hk := ?_);rintro atu atv aoy rfl;have aq5 := aoy.2;refine go ?_;exact fs ⟨aq5, rfl⟩;refine sf ?_;refine sf_ap (fun at2 at3 apn at4 => by have aom := be apn aom;refine go ?_;refine l_op (k_loadA (cs := [S ((qR 317310 (tenI 6)).1), S ((qR 317310 (tenI 6)).2), S ((qR 317311 (tenI 6)).1), S ((qR 317311 (tenI 6)).2)]) (b := aqn.heap.size) (o := 0) U1032 rfl sz1032 rfl (Blk.cells aom (i := 0) rfl) ?_);refine go ?_;exact finp) ?_
 refine sf_ae (V := .bool (true)) (fun at6 at7 aoz at8 => ?_) ?_;refine go ?_;refine clb en5029 (hc := cEq (Y := .bool true) (cell6_ok (x := ((qR 317310 (tenI 6)), (qR 317311 (tenI 6)))) (pl := 6) dc dc dc (ht.ext (xt aoo aoz))) (congrArg Value.bool (decide_eq_true rfl))) (hk := ?_);rintro at9 aua ao0 rfl;have aq6 := ao0.2;refine go ?_;exact fs ⟨aq6, rfl⟩;refine sf ?_;refine sf_ap (fun auh aui apr auj => by have aon := be apr aon;refine go ?_;refine l_op (k_loadA (cs := [S ((qR 1959 (tenI 3)).1), S ((qR 1959 (tenI 3)).2), S ((qR 1960 (tenI 3)).1), S ((qR 1960 (tenI 3)).2)]) (b := aqo.heap.size) (o := 0) U1032 rfl sz1032 rfl (Blk.cells aon (i := 0) rfl) ?_);refine go ?_;exact finp) ?_
 refine sf_ae (V := .bool (true)) (fun auk aul ao1 aum => ?_) ?_;refine go ?_;refine clb en5029 (hc := cEq (Y := .bool true) (cell6_ok (x := ((qR 1959 (tenI 3)), (qR 1960 (tenI 3)))) (pl := 3) dc dc dc (ht.ext (xt aoo ao1))) (congrArg Value.bool (decide_eq_true rfl))) (hk := ?_);rintro aun auo ao2 rfl;have aq7 := ao2.2;refine go ?_;exact fs ⟨aq7, rfl⟩;refine sf ?_;refine sf_ap (fun auv auw apu aux => by have aop := be apu aop;refine go ?_;refine l_op (k_loadA (cs := [S ((qR 50 (tenI 2)).1), S ((qR 50 (tenI 2)).2), S ((qR 50 (tenI 2)).1), S ((qR 50 (tenI 2)).2)]) (b := aqp.heap.size) (o := 0) U1032 rfl sz1032 rfl (Blk.cells aop (i := 0) rfl) ?_);refine go ?_;exact finp) ?_
 refine sf_ae (V := .agg #[S ((qR 1 2).1), S ((qR 1 2).2)]) (fun auy auz ao3 au0 => ?_) ?_;refine go ?_;refine clb en5011 (hc := lOf_ok (by unfold In64; decide) (by unfold In64; decide) dc (ht.ext (xt aoo ao3))) (hk := ?_);rintro au1 au2 ao4 rfl;have aq8 := ao4.2;refine go ?_;exact fs ⟨aq8, rfl⟩;refine sf_ae (V := .agg #[S ((qR 1 2).1), S ((qR 1 2).2)]) (fun au3 au4 ao5 au5 => ?_) ?_;refine go ?_;refine clb en5011 (hc := lOf_ok (by unfold In64; decide) (by unfold In64; decide) dc (ht.ext (xt aoo ao5))) (hk := ?_);rintro au6 au7 ao6 rfl;have aq9 := ao6.2;refine go ?_;exact fs ⟨aq9, rfl⟩;refine sf_ap (fun au8 au9 apv ava => by refine go ?_;refine l_op (k_build (vs := [(0, .agg #[S ((qR 1 2).1), S ((qR 1 2).2)]), (1, .agg #[S ((qR 1 2).1), S ((qR 1 2).2)])]) (cells := #[S ((qR 1 2).1), S ((qR 1 2).2), S ((qR 1 2).1), S ((qR 1 2).2)]) (pl := [(0, 2), (2, 2)]) U1032 inf1032 (by kernel_rfl) rfl (by kernel_rfl) ?_);refine go ?_;exact finp) ?_
 refine sf ?_;intro avb avc ao7 avd;have aoo := xt aoo ao7.2;with_reducible refine l_drop rfl ?_
 refine go ?_;refine l_op (k_eqlI (a := (qR 50 (tenI 2), qR 50 (tenI 2))) (b := (qR 1 2, qR 1 2)) (q := true) rfl rfl (decide_eq_true (half_50)) ?_);refine go ?_;exact f_ret1 (t := 0) (v := .bool (true)) rfl aoo rfl rfl
end Go.Proofs.YtjijfnggomhpiaaGreatDoor
