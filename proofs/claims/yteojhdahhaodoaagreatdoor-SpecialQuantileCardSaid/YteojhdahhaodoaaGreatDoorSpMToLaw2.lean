/- Part of the proof of a statement about the special functions. -/
import Derived.Test.YteojhdahhaodoaaGreatDoorSp15ToSp18
import Derived.Test.YteojhdahhaodoaaGreatDoorEngGToInt1
set_option linter.all false
namespace Go.Proofs.YteojhdahhaodoaaGreatDoor
open Go Go.Eng Go.RowKit
def CellV (pl : Nat) (f c : Int) : Value := .tuple #[.agg #[S (qR f (tenI pl)).1, S (qR f (tenI pl)).2, S (qR c (tenI pl)).1, S (qR c (tenI pl)).2], .int .i64 0]
def FindR (pl : Nat) (bd : Nat → Option (Int × Int)) (f c : Int) : Prop :=
  c ≤ f + 1 ∧ ((∃ r, bd 15 = some r ∧ CellW 15 pl r f c) ∨ (∃ r r2 f1 c1, bd 15 = some r ∧ CellW 15 pl r f1 c1 ∧ f1 + 1 < c1 ∧ bd 40 = some r2 ∧ CellW 40 pl r2 f c))
theorem FindR.uniq {pl : Nat} {bd : Nat → Option (Int × Int)} {f c f' c' : Int} (h : FindR pl bd f c) (h' : FindR pl bd f' c') : f = f' ∧ c = c' := by
  obtain ⟨h1, ⟨r, e, w⟩ | ⟨r, r2, f1, c1, e, w, n, e2, w2⟩⟩ := h <;> obtain ⟨h1', ⟨r', e', w'⟩ | ⟨r', r2', f1', c1', e', w', n', e2', w2'⟩⟩ := h'
  · rw [e] at e'; cases e'; exact ⟨w.hf.symm.trans w'.hf, w.hc.symm.trans w'.hc⟩
  · rw [e] at e'; cases e'; have := w.hf.symm.trans w'.hf; have := w.hc.symm.trans w'.hc; omega
  · rw [e] at e'; cases e'; have := w.hf.symm.trans w'.hf; have := w.hc.symm.trans w'.hc; omega
  · rw [e2] at e2'; cases e2'; exact ⟨w2.hf.symm.trans w2'.hf, w2.hc.symm.trans w2'.hc⟩
theorem CellR.w {pl : Nat} {r : Int × Int} {f c : Int} (h : CellR pl r f c) : CellW 15 pl r f c := ⟨h.b1, h.b2, h.le, h.hf, h.hc, h.f9, h.c9, h.fc⟩
theorem FindR.one {pl : Nat} {bd : Nat → Option (Int × Int)} {r : Int × Int} {f c : Int} (e : bd 15 = some r) (h : CellR pl r f c) : FindR pl bd f c := ⟨h.one, Or.inl ⟨r, e, h.w⟩⟩
theorem cell_find {l m l1 m1 l2 m2 l3 m3 l4 m4 : List UInt8} {g : Nat} {lb : List Value} {a b la lb0 ha hb : Int} {pl : Nat} {w : World} {bd : Nat → Option (Int × Int)} {f c : Int} (hF : FindR pl bd f c) (e : (l, m) = qR a b) (h : Q9 a b) (ha12 : a.natAbs < 10 ^ 12) (hb12 : b < 10 ^ 12) (e1 : (l1, m1) = qR la lb0) (q1 : Q9 la lb0) (e2 : (l2, m2) = qR ha hb) (q2 : Q9 ha hb) (hrt : rightB pl a b la lb0 ha hb = true) (hp : pl ≤ 12) (hne : ¬ ((l, m) : R) = (l3, m3)) (hg : Enters Tryz.prog g)
    (hbd : ∀ k r, k ≤ 40 → bd k = some r → ∀ W, Ext w W → Calls Tryz.prog g ([.agg #[.int .i64 ((pl + k : Nat) : Int), S (nS (10 ^ (pl + k)))], .agg #[S l, S m]].toArray ++ lb.toArray) W (Ret W fun v _ => v = .agg #[S (showI r.1), S (showI r.2)])) (ht : Tb w) :
    Calls Tryz.prog 33 #[.agg #[S (l1), S (m1), S (l2), S (m2), S (l3), S (m3), S (l4), S (m4), .func (.func g) #[] lb.toArray], .agg #[S (l), S (m)], .int .i64 ((pl : Nat) : Int)] w (Ret w fun v _ => v = CellV pl f c) := by
  obtain ⟨h1, ⟨r, er, w⟩ | ⟨r, r2, f1, c1, er, w, n, er2, w2⟩⟩ := hF
  · exact cell_ok e h ha12 hb12 e1 q1 e2 q2 hrt hp hne hg (hbd 15 r (by decide) er) (w.r h1) ht
  · exact cell_two e h ha12 hb12 e1 q1 e2 q2 hrt hp hne hg (hbd 15 r (by decide) er) (hbd 40 r2 (by decide) er2) w n w2 h1 ht
theorem cell_at2 {l m l1 m1 l2 m2 l3 m3 l4 m4 : List UInt8} {g : Nat} {lb : List Value} {a b la lb0 ha hb va vb f c : Int} {pl : Nat} {w : World} (hf : flI va vb (tenI pl) = f) (hc : clI va vb (tenI pl) = c) (e : (l, m) = qR a b) (h : Q9 a b) (ha12 : a.natAbs < 10 ^ 12) (hb12 : b < 10 ^ 12) (e1 : (l1, m1) = qR la lb0) (q1 : Q9 la lb0) (e2 : (l2, m2) = qR ha hb) (q2 : Q9 ha hb) (e4 : (l4, m4) = qR va vb) (q4 : Q9 va vb) (hrt : rightB pl a b la lb0 ha hb = true) (hp : pl ≤ 12) (heq : ((l, m) : R) = (l3, m3)) (ht : Tb w) :
    Calls Tryz.prog 33 #[.agg #[S (l1), S (m1), S (l2), S (m2), S (l3), S (m3), S (l4), S (m4), .func (.func g) #[] lb.toArray], .agg #[S (l), S (m)], .int .i64 ((pl : Nat) : Int)] w (Ret w fun v _ => v = CellV pl f c) := by
  subst hf hc
  exact cell_at e h ha12 hb12 e1 q1 e2 q2 e4 q4 hrt hp heq ht
theorem rightB_ok {pl : Nat} {a b la lb ha hb : Int} (hp : pl ≤ 12) (h1 : la * b ≤ a * lb) (h2 : a * hb ≤ ha * b) : rightB pl a b la lb ha hb = true := by
  unfold rightB
  rw [decide_eq_true (by omega), decide_eq_true (cmpI_swap0.2 h1), decide_eq_true (cmpI_nonpos.2 h2)]; rfl
theorem sc_pow {n : Nat} (h : n ≤ 90) : Sc (10 ^ n) := ⟨Nat.pow_pos (by decide), Nat.pow_lt_pow_right (by decide) (by omega)⟩
theorem qR_ne {a b c d : Int} (hb : 0 < b) (hd : 0 < d) {r : R} (e : r = qR c d) (h : a * d ≠ c * b) : ¬ (((qR a b).1, (qR a b).2) : R) = r := fun x => h (qR_inj hb hd (x.trans e))
theorem q20n : (([45, 50, 48], [49]) : R) = qR (-20) 1 := by decide +kernel
theorem q20p : (([50, 48], [49]) : R) = qR 20 1 := by decide +kernel
theorem q9_20n : Q9 (-20) 1 := ⟨by decide, by decide, by decide⟩
theorem q9_20p : Q9 20 1 := ⟨by decide, by decide, by decide⟩
theorem q9_12 {a b : Int} (ha : a.natAbs < 10 ^ 12) (h0 : 0 < b) (hb : b < 10 ^ 12) : Q9 a b := ⟨Nat.lt_trans ha (by decide), h0, by omega⟩
theorem ten_fl {pl : Nat} : flI 1 1 (tenI pl) = tenI pl ∧ clI 1 1 (tenI pl) = tenI pl := by unfold flI clI; simp
section
variable {a b : Int} {pl : Nat} {f c : Int} {w : World}
def expBd (pl : Nat) (a b : Int) (k : Nat) : Option (Int × Int) := (exP (10 ^ (pl + k)) (redN a b) (redD a b).toNat).map zP
theorem exp_q (ha12 : a.natAbs < 10 ^ 12) (hb : 0 < b) (hb12 : b < 10 ^ 12) (h0 : a ≠ 0) (hlo : -20 * b ≤ a) (hhi : a ≤ 20 * b) (hp : pl ≤ 12) (hF : FindR pl (expBd pl a b) f c) (ht : Tb w) :
    Calls Tryz.prog 10 #[.agg #[S (qR a b).1, S (qR a b).2], .int .i64 ((pl : Nat) : Int)] w (Ret w fun v _ => v = CellV pl f c) := by
  have q := q9_12 ha12 hb hb12
  refine Exp_ok (fun W e => cell_find (lb := []) hF rfl q ha12 hb12 q20n q9_20n q20p q9_20p (rightB_ok hp (by omega) (by omega)) hp (qR_ne hb (by decide) q01 (by omega)) en1027 ?_ (ht.ext e)) ht
  intro k r hk hr W' e'
  unfold expBd at hr
  cases hx : exP (10 ^ (pl + k)) (redN a b) (redD a b).toNat with
  | none => rw [hx] at hr; cases hr
  | some u =>
    rw [hx] at hr; cases hr
    rw [qR_str hb]
    exact expB_ok (sc_pow (by omega)) hx ((ht.ext e).ext e')
theorem zero_q (hb : 0 < b) (h0 : a = 0) : (((qR a b).1, (qR a b).2) : R) = ([48], [49]) := by
  have h : qR a b = qR 0 1 := qR_congr hb (by decide) (by omega)
  rw [q01, ← h]
theorem exp_z (hb : 0 < b) (hb12 : b < 10 ^ 12) (h0 : a = 0) (hp : pl ≤ 12) (ht : Tb w) :
    Calls Tryz.prog 10 #[.agg #[S (qR a b).1, S (qR a b).2], .int .i64 ((pl : Nat) : Int)] w (Ret w fun v _ => v = CellV pl (tenI pl) (tenI pl)) := by
  have ha12 : a.natAbs < 10 ^ 12 := by subst h0; decide
  have q := q9_12 ha12 hb hb12
  have hz := zero_q hb h0
  have hrt : rightB pl a b (-20) 1 20 1 = true := rightB_ok hp (by omega) (by omega)
  refine Exp_ok (fun W e => ?_) ht
  exact cell_at2 (lb := []) ten_fl.1 ten_fl.2 rfl q ha12 hb12 q20n q9_20n q20p q9_20p q11 q9l1 hrt hp hz (ht.ext e)
end
section
variable {n d pl : Nat} {f c : Int} {w : World}
theorem qlog1 : (([49], nS (10 ^ 13)) : R) = qR 1 10000000000000 := by decide +kernel
theorem q9log : Q9 1 10000000000000 := ⟨by decide, by decide, by decide⟩
def logBd (pl n d : Nat) (k : Nat) : Option (Int × Int) := lgB (10 ^ (pl + k)) n d
theorem log_q (hn : 0 < n) (hn12 : n < 10 ^ 12) (hd : 0 < d) (hd12 : d < 10 ^ 12) (h1 : n ≠ d) (hp : pl ≤ 12) (hF : FindR pl (logBd pl n d) f c) (ht : Tb w) :
    Calls Tryz.prog 13 #[.agg #[S (qR (n : Int) (d : Int)).1, S (qR (n : Int) (d : Int)).2], .int .i64 ((pl : Nat) : Int)] w (Ret w fun v _ => v = CellV pl f c) := by
  have ha12 : (n : Int).natAbs < 10 ^ 12 := by omega
  have hb12 : (d : Int) < 10 ^ 12 := by omega
  have hb : 0 < (d : Int) := by omega
  have q := q9_12 ha12 hb hb12
  refine Log_ok (fun W b1 e hB => cell_find (lb := [.pointer (some ⟨b1, 0, none⟩)]) hF rfl q ha12 hb12 qlog1 q9log qp13 q9p13 (rightB_ok hp (by omega) (by omega)) hp (qR_ne hb (by decide) q11 (by omega)) en1036 ?_ (ht.ext e)) ht
  intro k r hk hr W' e'
  exact logB_ok (sc_pow (by omega)) hr (hB.ext e') ((ht.ext e).ext e')
theorem log_one (hn : 0 < n) (hn12 : n < 10 ^ 12) (hd : n = d) (hp : pl ≤ 12) (ht : Tb w) :
    Calls Tryz.prog 13 #[.agg #[S (qR (n : Int) (d : Int)).1, S (qR (n : Int) (d : Int)).2], .int .i64 ((pl : Nat) : Int)] w (Ret w fun v _ => v = CellV pl 0 0) := by
  have ha12 : (n : Int).natAbs < 10 ^ 12 := by omega
  have hb12 : (d : Int) < 10 ^ 12 := by omega
  have hb : 0 < (d : Int) := by omega
  have q := q9_12 ha12 hb hb12
  have hz : (((qR (n : Int) (d : Int)).1, (qR (n : Int) (d : Int)).2) : R) = ([49], [49]) := by
    have h : qR (n : Int) (d : Int) = qR 1 1 := qR_congr hb (by decide) (by omega)
    rw [q11, ← h]
  have hrt : rightB pl (n : Int) (d : Int) 1 10000000000000 10000000000000 1 = true := rightB_ok hp (by omega) (by omega)
  have e0 : flI 0 1 (tenI pl) = 0 ∧ clI 0 1 (tenI pl) = 0 := by unfold flI clI; simp
  refine Log_ok (fun W b1 e _ => ?_) ht
  exact cell_at2 (lb := [.pointer (some ⟨b1, 0, none⟩)]) e0.1 e0.2 rfl q ha12 hb12 qlog1 q9log qp13 q9p13 q01 q9l0 hrt hp hz (ht.ext e)
end
section
variable {a b : Int} {pl : Nat} {f c : Int} {w : World}
def nrmBd (pl : Nat) (a b : Int) (k : Nat) : Option (Int × Int) := nrP (10 ^ (pl + k)) (pl + k) (redN a b) (redD a b).toNat
theorem nrm_right (hb : 0 < b) (h9 : a.natAbs ≤ 1000000 * b.natAbs) (hp : pl ≤ 12) : rightB pl a b (-10000000000000) 1 10000000000000 1 = true := rightB_ok hp (by omega) (by omega)
theorem normal_q (ha12 : a.natAbs < 10 ^ 12) (hb : 0 < b) (hb12 : b < 10 ^ 12) (h0 : a ≠ 0) (hlo : -8 * b < a) (hhi : a < 8 * b) (hp : pl ≤ 12) (hF : FindR pl (nrmBd pl a b) f c) (ht : Tb w) :
    Calls Tryz.prog 17 #[.agg #[S (qR a b).1, S (qR a b).2], .int .i64 ((pl : Nat) : Int)] w (Ret w fun v _ => v = CellV pl f c) := by
  have q := q9_12 ha12 hb hb12
  have hrt := nrm_right (a := a) (pl := pl) hb (by omega) hp
  refine Normal_ok rfl q ha12 hb12 hrt (cmpI_gt0 (by omega)) (cmpI_lt0 (by omega)) (fun W e => cell_find (lb := []) hF rfl q ha12 hb12 qn13 q9n13 qp13 q9p13 hrt hp (qR_ne hb (by decide) q01 (by omega)) en1051 ?_ (ht.ext e)) ht
  intro k r hk hr W' e'
  rw [qR_str hb]
  exact normal_ok (sc_pow (by omega)) (by omega) hr ((ht.ext e).ext e')
theorem normal_z (hb : 0 < b) (hb12 : b < 10 ^ 12) (h0 : a = 0) (hp : pl ≤ 12) (ht : Tb w) :
    Calls Tryz.prog 17 #[.agg #[S (qR a b).1, S (qR a b).2], .int .i64 ((pl : Nat) : Int)] w (Ret w fun v _ => v = CellV pl (flI 1 2 (tenI pl)) (clI 1 2 (tenI pl))) := by
  have ha12 : a.natAbs < 10 ^ 12 := by subst h0; decide
  have q := q9_12 ha12 hb hb12
  have hz := zero_q hb h0
  have hrt := nrm_right (a := a) (pl := pl) hb (by omega) hp
  have q2 : Q9 1 2 := ⟨by decide, by decide, by decide⟩
  refine Normal_ok rfl q ha12 hb12 hrt (cmpI_gt0 (by omega)) (cmpI_lt0 (by omega)) (fun W e => ?_) ht
  exact cell_at2 (lb := []) rfl rfl rfl q ha12 hb12 qn13 q9n13 qp13 q9p13 q12 q2 hrt hp hz (ht.ext e)
theorem neg_q (hb : 0 < b) : neg (qR a b).1 = decide (a < 0) := by
  show neg (showI (redN a b)) = _
  rw [neg_showI]
  have h1 := rq_n (n := a) hb
  have h2 := gcd_pos (n := a) hb
  generalize ((Int.gcd a b : Nat) : Int) = g at *
  generalize redN a b = x at *
  subst h1
  by_cases h : x < 0
  · rw [decide_eq_true h, decide_eq_true (Int.mul_neg_of_neg_of_pos h h2)]
  · rw [decide_eq_false h, decide_eq_false (by have := Int.mul_nonneg (show 0 ≤ x by omega) (Int.le_of_lt h2); omega)]
theorem normal_lo (ha12 : a.natAbs < 10 ^ 12) (hb : 0 < b) (hb12 : b < 10 ^ 12) (hlo : a ≤ -8 * b) (h9 : a.natAbs ≤ 1000000 * b.natAbs) (hp : pl ≤ 12) (ht : Tb w) :
    Calls Tryz.prog 17 #[.agg #[S (qR a b).1, S (qR a b).2], .int .i64 ((pl : Nat) : Int)] w (Ret w fun v _ => v = CellV pl 0 1) := by
  have h := Normal_lo (l := (qR a b).1) (m := (qR a b).2) rfl (q9_12 ha12 hb hb12) ha12 hb12 hp (nrm_right hb h9 hp) (cmpI_ngt (by omega)) ((neg_q hb).trans (decide_eq_true (by omega))) ht
  have e : (([48], [49]) : R) = qR 0 (tenI pl) := q01.trans (qR_congr (by decide) (ten_pos pl) (by omega))
  rw [show ([48] : List UInt8) = (qR 0 (tenI pl)).1 from congrArg Prod.fst e, show ([49] : List UInt8) = (qR 0 (tenI pl)).2 from congrArg Prod.snd e] at h
  exact h
theorem normal_hi (ha12 : a.natAbs < 10 ^ 12) (hb : 0 < b) (hb12 : b < 10 ^ 12) (hhi : 8 * b ≤ a) (h9 : a.natAbs ≤ 1000000 * b.natAbs) (hp : pl ≤ 12) (ht : Tb w) :
    Calls Tryz.prog 17 #[.agg #[S (qR a b).1, S (qR a b).2], .int .i64 ((pl : Nat) : Int)] w (Ret w fun v _ => v = CellV pl (tenI pl - 1) (tenI pl)) := by
  have h := Normal_hi (l := (qR a b).1) (m := (qR a b).2) rfl (q9_12 ha12 hb hb12) ha12 hb12 hp (nrm_right hb h9 hp) (cmpI_gt0 (by omega)) (cmpI_nlt (by omega)) ((neg_q hb).trans (decide_eq_false (by omega))) ht
  have hT := ten_pos pl
  have e : (([49], [49]) : R) = qR (tenI pl) (tenI pl) := q11.trans (qR_congr (by decide) hT (by omega))
  have e1 : ([49] : List UInt8) = (qR (tenI pl) (tenI pl)).1 := congrArg Prod.fst e
  have e2 : ([49] : List UInt8) = (qR (tenI pl) (tenI pl)).2 := congrArg Prod.snd e
  rw [Int.one_mul, Int.one_mul] at h
  unfold CellV
  rw [← e1, ← e2]
  exact h
end
end Go.Proofs.YteojhdahhaodoaaGreatDoor
namespace Go.Proofs.YteojhdahhaodoaaGreatDoor
set_option maxRecDepth 100000
open Go Go.Eng Go.RowKit
attribute [local irreducible] wpListIn Code.wpIn Oper.wpIn Exit.then Exit.inBlock Exit.noGoto
set_option maxHeartbeats 40000000
def chiBd (pl n d : Nat) (k : Nat) : Option (Int × Int) := tl1P (10 ^ (pl + k)) (pl + k) n d
theorem q100 : (([49, 48, 48], [49]) : R) = qR 100 1 := by decide +kernel
theorem q9_100 : Q9 100 1 := ⟨by decide, by decide, by decide⟩
theorem chi_q {n d pl : Nat} {f c : Int} {w : World} (hn : 0 < n) (hn12 : n < 10 ^ 12) (hd : 0 < d) (hd12 : d < 10 ^ 12) (h100 : n ≤ 100 * d) (hp : pl ≤ 12) (hF : FindR pl (chiBd pl n d) f c) (ht : Tb w) :
    Calls Tryz.prog 21 #[.agg #[S (qR (n : Int) (d : Int)).1, S (qR (n : Int) (d : Int)).2], .int .i64 ((1 : Nat) : Int), .int .i64 pl] w (Ret w fun v _ => v = CellV pl f c) := by
  have ha12 : (n : Int).natAbs < 10 ^ 12 := by omega
  have hb12 : (d : Int) < 10 ^ 12 := by omega
  have hb : 0 < (d : Int) := by omega
  have q := q9_12 ha12 hb hb12
  refine Chi_ok dc dc (fun W b1 e hB => cell_find (lb := [.pointer (some ⟨b1, 0, none⟩)]) hF rfl q ha12 hb12 q01 q9l0 q100 q9_100 (rightB_ok hp om om) hp (qR_ne hb dc q01 om) en1058 ?_ (ht.ext e)) ht
  intro k r hk hr W' e'
  exact chiB_ok (sc_pow om) om rfl hr (hB.ext e') ((ht.ext e).ext e')
set_option maxRecDepth 10000 in
theorem se1 : FindR 3 (expBd 3 1 1) 2718 2719 := ⟨by decide, Or.inl ⟨(2718281828459045209, 2718281828459045273), by decide +kernel, by decide +kernel, by decide +kernel, by decide +kernel, by decide +kernel, by decide +kernel, by decide +kernel, by decide +kernel, by decide +kernel⟩⟩
theorem se2 : FindR 6 (logBd 6 1 2) (-693148) (-693147) := ⟨by decide, Or.inl ⟨(-693147180559945309470, -693147180559945309376), by decide +kernel, by decide +kernel, by decide +kernel, by decide +kernel, by decide +kernel, by decide +kernel, by decide +kernel, by decide +kernel, by decide +kernel⟩⟩
theorem se3 : FindR 6 (nrmBd 6 (-3) 1) 1349 1350 := ⟨by decide, Or.inl ⟨(1349898031630094487, 1349898031630094600), by decide +kernel, by decide +kernel, by decide +kernel, by decide +kernel, by decide +kernel, by decide +kernel, by decide +kernel, by decide +kernel, by decide +kernel⟩⟩
theorem se4 : FindR 6 (chiBd 6 1 1) 317310 317311 := ⟨by decide, Or.inl ⟨(317310507862914102816, 317310507862914102840), by decide +kernel, by decide +kernel, by decide +kernel, by decide +kernel, by decide +kernel, by decide +kernel, by decide +kernel, by decide +kernel, by decide +kernel⟩⟩
theorem se5 : qnF (((10 ^ 3 : Nat) : Int)) 39 40 100 (-5 * ((10 ^ 3 : Nat) : Int)) (5 * ((10 ^ 3 : Nat) : Int)) = some (1959, 1960) := by decide +kernel
section
variable {w : World}
theorem sa_exp (ht : Tb w) : Calls Tryz.prog 10 #[.agg #[S (qR 1 1).1, S (qR 1 1).2], .int .i64 3] w (Ret w fun v _ => v = CellV 3 2718 2719) := exp_q (pl := 3) dc dc dc dc dc dc dc se1 ht
theorem sa_log (ht : Tb w) : Calls Tryz.prog 13 #[.agg #[S (qR 1 2).1, S (qR 1 2).2], .int .i64 6] w (Ret w fun v _ => v = CellV 6 (-693148) (-693147)) := log_q (pl := 6) (n := 1) (d := 2) dc dc dc dc dc dc se2 ht
theorem sa_nrm (ht : Tb w) : Calls Tryz.prog 17 #[.agg #[S (qR (-3) 1).1, S (qR (-3) 1).2], .int .i64 6] w (Ret w fun v _ => v = CellV 6 1349 1350) := normal_q (pl := 6) dc dc dc dc dc dc dc se3 ht
theorem sa_chi (ht : Tb w) : Calls Tryz.prog 21 #[.agg #[S (qR 1 1).1, S (qR 1 1).2], .int .i64 1, .int .i64 6] w (Ret w fun v _ => v = CellV 6 317310 317311) := chi_q (pl := 6) (n := 1) (d := 1) dc dc dc dc dc dc se4 ht
theorem q_half : ¬ qR 39 40 = (([49], [50]) : R) := by decide +kernel
theorem sa_qt (ht : Tb w) : Calls Tryz.prog 15 #[.agg #[S (qR 39 40).1, S (qR 39 40).2], .int .i64 3] w (Ret w fun v _ => v = CellV 3 1959 1960) := Quantile_ok (a := 39) (b := 40) (pl := 3) (q9_12 dc dc dc) dc dc dc (rightB_ok dc dc dc) q_half se5 ht
theorem sa_n0 (ht : Tb w) : Calls Tryz.prog 17 #[.agg #[S (qR 0 1).1, S (qR 0 1).2], .int .i64 2] w (Ret w fun v _ => v = CellV 2 50 50) := normal_z (pl := 2) dc dc rfl dc ht
theorem rt_f1 : rightB 6 0 1 1 10000000000000 10000000000000 1 = false := by decide +kernel
theorem rt_f2 : rightB 13 1 1 (-20) 1 20 1 = false := by decide +kernel
def ErrV : Value := .tuple #[.agg #[S [], S [], S [], S []], .int .i64 60]
theorem sa_l0 (ht : Tb w) : Calls Tryz.prog 13 #[.agg #[S (qR 0 1).1, S (qR 0 1).2], .int .i64 6] w (Ret w fun v _ => v = ErrV) :=
  Log_ok (pl := 6) (fun W b1 e _ => cell_no (lb := [.pointer (some ⟨b1, 0, none⟩)]) rfl q9l0 dc dc qlog1 q9log qp13 q9p13 rt_f1 (ht.ext e)) ht
theorem sa_e13 (ht : Tb w) : Calls Tryz.prog 10 #[.agg #[S (qR 1 1).1, S (qR 1 1).2], .int .i64 13] w (Ret w fun v _ => v = ErrV) :=
  Exp_ok (pl := 13) (fun W e => cell_no (lb := []) rfl q9l1 dc dc q20n q9_20n q20p q9_20p rt_f2 (ht.ext e)) ht
end
theorem half_50 : ((qR 50 (tenI 2), qR 50 (tenI 2)) : R × R) = (qR 1 2, qR 1 2) := by rw [show qR 50 (tenI 2) = qR 1 2 from qR_congr (ten_pos 2) dc dc]
theorem fl_self {f T : Int} (hT : 0 < T) : flI f T T = f := by unfold flI; exact Int.mul_ediv_cancel _ om
theorem cl_self {f T : Int} (hT : 0 < T) : clI f T T = f := by unfold clI; rw [if_pos (Int.mul_emod_left _ _)]; exact Int.mul_ediv_cancel _ om
theorem w_cases {f c : Int} {pl : Nat} (h1 : f ≤ c) (h2 : c ≤ f + 1) : qR (c * tenI pl - f * tenI pl) (tenI pl * tenI pl) = qR 0 1 ∨ (¬ qR (c * tenI pl - f * tenI pl) (tenI pl * tenI pl) = qR 0 1 ∧ qR (c * tenI pl - f * tenI pl) (tenI pl * tenI pl) = qR 1 (tenI pl)) := by
  have hT := ten_pos pl
  have hTT := Int.mul_pos hT hT
  by_cases h : c = f
  · left; subst h; exact qR_congr hTT dc om
  · right
    have hc : c = f + 1 := by omega
    subst hc
    refine ⟨fun e => ?_, qR_congr hTT hT (by rw [← Int.sub_mul, show f + 1 - f = 1 by omega, Int.one_mul, Int.one_mul])⟩
    have := qR_inj hTT dc e
    rw [← Int.sub_mul, show f + 1 - f = 1 by omega] at this
    omega
theorem cell6_ok {x : R × R} {n : Int} {pl : Nat} {w : World} (hp : pl ≤ 12) (h1 : -1000000000000 ≤ n) (h2 : n ≤ 1000000000000) (ht : Tb w) :
    Calls Tryz.prog 22 #[.agg #[S (x.1.1), S (x.1.2), S (x.2.1), S (x.2.2)], .int .i64 (n), .int .i64 pl] w (Ret w fun v w' => v = .bool (decide (x = (qR n (tenI pl), qR (n + 1) (tenI pl))))) := by
 have hten := ten_le12 hp;refine f_in Tryz.func22 rfl ?_;refine go ?_;refine bx (fun gk fm ac => ?_);have bb := fm.2;refine go ?_;refine c_an 11 ?_;refine sf_ap (fun gl gm fo gp => by have ac := be fo ac;refine l_op (k_loadA (cs := [S (x.1.1), S (x.1.2), S (x.2.1), S (x.2.2)]) (b := w.heap.size) (o := 0) U1032 rfl sz1032 rfl (Blk.cells ac (i := 0) rfl) ?_);refine go ?_;exact finp) ?_;refine sf ?_;refine sf_ae (V := .int .i64 (tenI (pl))) (fun g6 g7 fw g8 => ?_) ?_;refine cl en1050 (ten_ok (pl := (pl)) hp) ?_;rintro g9 ia en rfl;have f6 := en.2;refine go ?_;exact fs ⟨f6, rfl⟩;refine sf_ae (V := .agg #[S ((qR n (tenI (pl))).1), S ((qR n (tenI (pl))).2)]) (fun ic ie e8 ig => ?_) ?_;refine clb en1009 (hc := lOf_ok (by unfold In64; omega) (by unfold In64; omega) om (ht.ext (xt bb e8))) (hk := ?_);rintro ii ij fe rfl;have f7 := fe.2;refine go ?_;exact fs ⟨f7, rfl⟩;refine sf ?_;refine sf_ap (fun io ip gc iq => by refine adi ?_;refine go ?_;exact finp) ?_;refine sf ?_;refine sf_ae (V := .int .i64 (tenI (pl))) (fun iw ix gg iy => ?_) ?_;refine cl en1050 (ten_ok (pl := (pl)) hp) ?_;rintro iz i6 fg rfl;have gh := fg.2;refine go ?_;exact fs ⟨gh, rfl⟩;refine sf_ae (V := .agg #[S ((qR (n + 1) (tenI (pl))).1), S ((qR (n + 1) (tenI (pl))).2)]) (fun i7 i8 fh ja => ?_) ?_;refine clb en1009 (hc := lOf_ok (by unfold In64; omega) (by unfold In64; omega) om (ht.ext (xt bb fh))) (hk := ?_);rintro jb jc fj rfl;have gi := fj.2;refine go ?_;exact fs ⟨gi, rfl⟩
 refine sf_ap (fun jd je gj jf => by refine l_op (k_build (vs := [(0, .agg #[S ((qR n (tenI (pl))).1), S ((qR n (tenI (pl))).2)]), (1, .agg #[S ((qR (n + 1) (tenI (pl))).1), S ((qR (n + 1) (tenI (pl))).2)])]) (cells := #[S ((qR n (tenI (pl))).1), S ((qR n (tenI (pl))).2), S ((qR (n + 1) (tenI (pl))).1), S ((qR (n + 1) (tenI (pl))).2)]) (pl := [(0, 2), (2, 2)]) U1032 inf1032 (by kernel_rfl) rfl (by kernel_rfl) ?_);refine go ?_;exact finp) ?_
 refine sf ?_;intro jg jh fk ji;have bb := xt bb fk.2;refine l_op (k_eqlI (a := (x.1, x.2)) (b := (qR n (tenI (pl)), qR (n + 1) (tenI (pl)))) (q := decide ((x.1, x.2) = (qR n (tenI (pl)), qR (n + 1) (tenI (pl))))) rfl rfl rfl ?_);refine go ?_;exact f_ret1 (t := 6) (v := .bool (decide ((x.1, x.2) = (qR n (tenI (pl)), qR (n + 1) (tenI (pl)))))) rfl bb rfl rfl
theorem grid0_ok {f c : Int} {pl : Nat} {w : World} (hp : pl ≤ 12) (q1 : Q9 f (tenI pl)) (q2 : Q9 c (tenI pl)) (h1 : f ≤ c) (hw : qR (c * tenI pl - f * tenI pl) (tenI pl * tenI pl) = qR 0 1) (ht : Tb w) :
    Calls Tryz.prog 16 #[.agg #[S ((qR f (tenI pl)).1), S ((qR f (tenI pl)).2), S ((qR c (tenI pl)).1), S ((qR c (tenI pl)).2)], .int .i64 pl] w (Ret w fun v w' => v = .bool true) := by
 have hten := ten_le12 hp;refine f_in Tryz.func16 rfl ?_;refine go ?_;refine bx (fun ic g7 ac => ?_);have e8 := g7.2;refine go ?_;refine l_op (k_loadA (cs := [S ((qR f (tenI pl)).1), S ((qR f (tenI pl)).2), S ((qR c (tenI pl)).1), S ((qR c (tenI pl)).2)]) (b := w.heap.size) (o := 0) U1032 rfl sz1032 rfl (Blk.cells ac (i := 0) rfl) ?_);refine go ?_;refine clb en1048 (hc := cEq (Y := .tuple #[.agg #[S ((qR f (tenI pl)).1), S ((qR f (tenI pl)).2), S ((qR c (tenI pl)).1), S ((qR c (tenI pl)).2)], .int .i64 0]) (round_ok (x := (qR f (tenI pl), qR c (tenI pl))) rfl rfl q1 q2 (Int.mul_le_mul_of_nonneg_right h1 om) om (ht.ext e8)) (by rw [fl_self hten.2, cl_self hten.2])) (hk := ?_);rintro ie gw gy rfl;have ac := be gy.2 ac;have e8 := xt e8 gy.2;refine go ?_;refine al inf1032 (fun ig gz g8 => ?_);have ac := be gz.2 ac;have e8 := xt e8 gz.2;refine SA g8 (fun ii fk bb => ?_);have ac := pb fk ac;have e8 := plw fk e8;have ij := psz fk;refine go ?_;refine l_op (k_loadA (cs := [S ((qR f (tenI pl)).1), S ((qR f (tenI pl)).2), S ((qR c (tenI pl)).1), S ((qR c (tenI pl)).2)]) (b := w.heap.size) (o := 0) U1032 rfl sz1032 rfl (Blk.cells ac (i := 0) rfl) ?_);refine clb en1049 (hc := width_ok (x := (qR f (tenI pl), qR c (tenI pl))) rfl rfl q1 q2 (Int.mul_le_mul_of_nonneg_right h1 om) (ht.ext e8)) (hk := ?_);rintro ik g6 fm rfl;have ac := be fm.2 ac;have bb := be fm.2 bb;have e8 := xt e8 fm.2
 refine go ?_;refine al inf36 (fun il fo g9 => ?_);have ac := be fo.2 ac;have bb := be fo.2 bb;have e8 := xt e8 fo.2;refine SA g9 (fun im fe en => ?_);have ac := pb fe ac;have bb := pb fe bb;have e8 := plw fe e8;have io := psz fe;refine go ?_;refine c_an 20 ?_;refine sf ?_;refine sf_ap (fun jj jk gd jl => by have ac := be gd ac;refine go ?_;refine l_op (k_loadA (cs := [S ((qR f (tenI pl)).1), S ((qR f (tenI pl)).2), S ((qR c (tenI pl)).1), S ((qR c (tenI pl)).2)]) (b := w.heap.size) (o := 0) U1032 rfl sz1032 rfl (Blk.cells ac (i := 0) rfl) ?_);refine go ?_;exact finp) ?_
 refine sf_ap (fun jm jn gg jo => by have bb := be gg bb;refine go ?_;refine l_op (k_loadA (cs := [S ((qR f (tenI pl)).1), S ((qR f (tenI pl)).2), S ((qR c (tenI pl)).1), S ((qR c (tenI pl)).2)]) (b := gw.heap.size) (o := 0) U1032 rfl sz1032 rfl (Blk.cells bb (i := 0) rfl) ?_);refine go ?_;exact finp) ?_
 refine sf_ap (fun jp jq gh jr => by refine go ?_;refine l_op (k_eqlI (a := (qR f (tenI pl), qR c (tenI pl))) (b := (qR f (tenI pl), qR c (tenI pl))) (q := true) rfl rfl (decide_eq_true (rfl)) ?_);refine go ?_;exact finp) ?_
 refine sf ?_;refine sf_ae (V := .agg #[S ((qR 0 1).1), S ((qR 0 1).2)]) (fun j3 j4 fg j5 => ?_) ?_;refine go ?_;refine clb en1009 (hc := lOf_ok (by unfold In64; omega) (by unfold In64; omega) om (ht.ext (xt e8 fg))) (hk := ?_);rintro j6 j7 fh rfl;have ia := fh.2;refine go ?_;exact fs ⟨ia, rfl⟩;refine sf_ap (fun j8 j9 gl ka => by refine go ?_;refine l_op (k_eqlR (a := qR (c * tenI pl - f * tenI pl) (tenI pl * tenI pl)) (b := qR 0 1) (q := true) rfl rfl (decide_eq_true (hw)) ?_);refine go ?_;exact finp) ?_;refine sf ?_;intro ku kv fj kw;have e8 := xt e8 fj.2;with_reducible refine l_drop rfl ?_
 refine go ?_;exact f_ret1 (t := 4) (v := .bool (true)) rfl e8 rfl rfl
theorem grid1_ok {f c : Int} {pl : Nat} {w : World} (hp : pl ≤ 12) (q1 : Q9 f (tenI pl)) (q2 : Q9 c (tenI pl)) (h1 : f ≤ c) (hn : ¬ qR (c * tenI pl - f * tenI pl) (tenI pl * tenI pl) = qR 0 1) (hw : qR (c * tenI pl - f * tenI pl) (tenI pl * tenI pl) = qR 1 (tenI pl)) (ht : Tb w) :
    Calls Tryz.prog 16 #[.agg #[S ((qR f (tenI pl)).1), S ((qR f (tenI pl)).2), S ((qR c (tenI pl)).1), S ((qR c (tenI pl)).2)], .int .i64 pl] w (Ret w fun v w' => v = .bool true) := by
 have hten := ten_le12 hp;refine f_in Tryz.func16 rfl ?_;refine go ?_;refine bx (fun ij g9 ac => ?_);have e8 := g9.2;refine go ?_;refine l_op (k_loadA (cs := [S ((qR f (tenI pl)).1), S ((qR f (tenI pl)).2), S ((qR c (tenI pl)).1), S ((qR c (tenI pl)).2)]) (b := w.heap.size) (o := 0) U1032 rfl sz1032 rfl (Blk.cells ac (i := 0) rfl) ?_);refine go ?_;refine clb en1048 (hc := cEq (Y := .tuple #[.agg #[S ((qR f (tenI pl)).1), S ((qR f (tenI pl)).2), S ((qR c (tenI pl)).1), S ((qR c (tenI pl)).2)], .int .i64 0]) (round_ok (x := (qR f (tenI pl), qR c (tenI pl))) rfl rfl q1 q2 (Int.mul_le_mul_of_nonneg_right h1 om) om (ht.ext e8)) (by rw [fl_self hten.2, cl_self hten.2])) (hk := ?_);rintro ik g6 g7 rfl;have ac := be g7.2 ac;have e8 := xt e8 g7.2;refine go ?_;refine al inf1032 (fun il g8 ia => ?_);have ac := be g8.2 ac;have e8 := xt e8 g8.2;refine SA ia (fun im fp bb => ?_);have ac := pb fp ac;have e8 := plw fp e8;have io := psz fp;refine go ?_;refine l_op (k_loadA (cs := [S ((qR f (tenI pl)).1), S ((qR f (tenI pl)).2), S ((qR c (tenI pl)).1), S ((qR c (tenI pl)).2)]) (b := w.heap.size) (o := 0) U1032 rfl sz1032 rfl (Blk.cells ac (i := 0) rfl) ?_);refine clb en1049 (hc := width_ok (x := (qR f (tenI pl), qR c (tenI pl))) rfl rfl q1 q2 (Int.mul_le_mul_of_nonneg_right h1 om) (ht.ext e8)) (hk := ?_);rintro ip fq fw rfl;have ac := be fw.2 ac;have bb := be fw.2 bb;have e8 := xt e8 fw.2
 refine go ?_;refine al inf36 (fun iq f6 ic => ?_);have ac := be f6.2 ac;have bb := be f6.2 bb;have e8 := xt e8 f6.2;refine SA ic (fun ir fe en => ?_);have ac := pb fe ac;have bb := pb fe bb;have e8 := plw fe e8;have iu := psz fe;refine go ?_;refine c_an 20 ?_;refine sf ?_;refine sf_ap (fun jn jo gj jp => by have ac := be gj ac;refine go ?_;refine l_op (k_loadA (cs := [S ((qR f (tenI pl)).1), S ((qR f (tenI pl)).2), S ((qR c (tenI pl)).1), S ((qR c (tenI pl)).2)]) (b := w.heap.size) (o := 0) U1032 rfl sz1032 rfl (Blk.cells ac (i := 0) rfl) ?_);refine go ?_;exact finp) ?_
 refine sf_ap (fun jq jr gk js => by have bb := be gk bb;refine go ?_;refine l_op (k_loadA (cs := [S ((qR f (tenI pl)).1), S ((qR f (tenI pl)).2), S ((qR c (tenI pl)).1), S ((qR c (tenI pl)).2)]) (b := g6.heap.size) (o := 0) U1032 rfl sz1032 rfl (Blk.cells bb (i := 0) rfl) ?_);refine go ?_;exact finp) ?_
 refine sf_ap (fun jt ju gl jv => by refine go ?_;refine l_op (k_eqlI (a := (qR f (tenI pl), qR c (tenI pl))) (b := (qR f (tenI pl), qR c (tenI pl))) (q := true) rfl rfl (decide_eq_true (rfl)) ?_);refine go ?_;exact finp) ?_
 refine sf ?_;refine sf_ae (V := .agg #[S ((qR 0 1).1), S ((qR 0 1).2)]) (fun j7 j8 fg j9 => ?_) ?_;refine go ?_;refine clb en1009 (hc := lOf_ok (by unfold In64; omega) (by unfold In64; omega) om (ht.ext (xt e8 fg))) (hk := ?_);rintro ka kb fh rfl;have ie := fh.2;refine go ?_;exact fs ⟨ie, rfl⟩;refine sf_ap (fun ke kf gu kg => by refine go ?_;refine l_op (k_eqlR (a := qR (c * tenI pl - f * tenI pl) (tenI pl * tenI pl)) (b := qR 0 1) (q := false) rfl rfl (decide_eq_false (hn)) ?_);refine go ?_;exact finp) ?_;refine sf ?_;refine sf_ae (V := .int .i64 (tenI (pl))) (fun ks kt gz ku => ?_) ?_;refine go ?_;refine cl en1050 (ten_ok (pl := (pl)) hp) ?_;rintro kv kw fj rfl;have ig := fj.2;refine go ?_;exact fs ⟨ig, rfl⟩;refine sf_ae (V := .agg #[S ((qR 1 (tenI (pl))).1), S ((qR 1 (tenI (pl))).2)]) (fun ky kz fk k4 => ?_) ?_;refine go ?_;refine clb en1009 (hc := lOf_ok (by unfold In64; omega) (by unfold In64; omega) om (ht.ext (xt e8 fk))) (hk := ?_);rintro k5 ld fm rfl;have ii := fm.2;refine go ?_;exact fs ⟨ii, rfl⟩;refine sf ?_;intro lg lh fo li;have e8 := xt e8 fo.2;with_reducible refine l_drop rfl ?_
 refine go ?_;refine l_op (k_eqlR (a := qR (c * tenI pl - f * tenI pl) (tenI pl * tenI pl)) (b := qR 1 (tenI (pl))) (q := true) rfl rfl (decide_eq_true (hw)) ?_);refine go ?_;exact f_ret1 (t := 4) (v := .bool (true)) rfl e8 rfl rfl
theorem grid_ok {f c : Int} {pl : Nat} {w : World} (hp : pl ≤ 12) (q1 : Q9 f (tenI pl)) (q2 : Q9 c (tenI pl)) (h1 : f ≤ c) (h2 : c ≤ f + 1) (ht : Tb w) : Calls Tryz.prog 16 #[.agg #[S ((qR f (tenI pl)).1), S ((qR f (tenI pl)).2), S ((qR c (tenI pl)).1), S ((qR c (tenI pl)).2)], .int .i64 pl] w (Ret w fun v _ => v = .bool true) := by
  rcases w_cases (pl := pl) h1 h2 with hw | ⟨hn, hw⟩
  · exact grid0_ok hp q1 q2 h1 hw ht
  · exact grid1_ok hp q1 q2 h1 hn hw ht
theorem sane6_ok {w : World} (ht : Tb w) :
    Calls Tryz.prog 6 #[] w (Ret w fun v w' => v = .bool true) := by
 refine f_in Tryz.func6 rfl ?_;refine go ?_;refine clb en1009 (hc := lOf_ok (by unfold In64; decide) (by unfold In64; decide) dc (ht.ext (Ext.refl _))) (hk := ?_);rintro kh ki jt rfl;have fg := jt.2;refine cl en1010 (sa_exp (ht.ext fg)) ?_;rintro kj jj ju rfl;have fg := xt fg ju.2;refine go ?_;refine al inf1032 (fun km jv jw => ?_);have fg := xt fg jv.2;refine SA jw (fun kn jk ac => ?_);have fg := plw jk fg;have ko := psz jk;refine go ?_;refine clb en1009 (hc := lOf_ok (by unfold In64; decide) (by unfold In64; decide) dc (ht.ext fg)) (hk := ?_);rintro kp kq jl rfl;have ac := be jl.2 ac;have fg := xt fg jl.2;refine cl en1013 (sa_log (ht.ext fg)) ?_;rintro kr jm jn rfl;have ac := be jn.2 ac;have fg := xt fg jn.2;refine go ?_;refine al inf1032 (fun ks jo jx => ?_);have ac := be jo.2 ac;have fg := xt fg jo.2;refine SA jx (fun kt jf bb => ?_);have ac := pb jf ac;have fg := plw jf fg;have ku := psz jf;refine go ?_;refine clb en1009 (hc := lOf_ok (by unfold In64; decide) (by unfold In64; decide) dc (ht.ext fg)) (hk := ?_);rintro kv kw jg rfl;have ac := be jg.2 ac;have bb := be jg.2 bb;have fg := xt fg jg.2;refine cl en1017 (sa_nrm (ht.ext fg)) ?_;rintro ky jp jh rfl;have ac := be jh.2 ac;have bb := be jh.2 bb;have fg := xt fg jh.2;refine go ?_;refine al inf1032 (fun kz ji jy => ?_);have ac := be ji.2 ac;have bb := be ji.2 bb
 have fg := xt fg ji.2;refine SA jy (fun k4 jb en => ?_);have ac := pb jb ac;have bb := pb jb bb;have fg := plw jb fg;have k5 := psz jb;refine go ?_;refine clb en1009 (hc := lOf_ok (by unfold In64; decide) (by unfold In64; decide) dc (ht.ext fg)) (hk := ?_);rintro ld lg jc rfl;have ac := be jc.2 ac;have bb := be jc.2 bb;have en := be jc.2 en;have fg := xt fg jc.2;refine cl en1021 (sa_chi (ht.ext fg)) ?_;rintro lh jq jd rfl;have ac := be jd.2 ac;have bb := be jd.2 bb;have en := be jd.2 en;have fg := xt fg jd.2;refine go ?_;refine al inf1032 (fun li je jz => ?_);have ac := be je.2 ac;have bb := be je.2 bb;have en := be je.2 en;have fg := xt fg je.2;refine SA jz (fun lj i6 e8 => ?_);have ac := pb i6 ac;have bb := pb i6 bb;have en := pb i6 en;have fg := plw i6 fg;have lk := psz i6;refine go ?_;refine clb en1009 (hc := lOf_ok (by unfold In64; decide) (by unfold In64; decide) dc (ht.ext fg)) (hk := ?_);rintro ll ln i7 rfl;have ac := be i7.2 ac;have bb := be i7.2 bb;have en := be i7.2 en;have e8 := be i7.2 e8;have fg := xt fg i7.2;refine cl en1015 (sa_qt (ht.ext fg)) ?_;rintro lu jr i8 rfl;have ac := be i8.2 ac;have bb := be i8.2 bb;have en := be i8.2 en;have e8 := be i8.2 e8;have fg := xt fg i8.2;refine go ?_;refine al inf1032 (fun lv ja j2 => ?_)
 have ac := be ja.2 ac;have bb := be ja.2 bb;have en := be ja.2 en;have e8 := be ja.2 e8;have fg := xt fg ja.2;refine SA j2 (fun lw iw fe => ?_);have ac := pb iw ac;have bb := pb iw bb;have en := pb iw en;have e8 := pb iw e8;have fg := plw iw fg;have lx := psz iw;refine go ?_;refine clb en1009 (hc := lOf_ok (by unfold In64; decide) (by unfold In64; decide) dc (ht.ext fg)) (hk := ?_);rintro lz l0 ix rfl;have ac := be ix.2 ac;have bb := be ix.2 bb;have en := be ix.2 en;have e8 := be ix.2 e8;have fe := be ix.2 fe;have fg := xt fg ix.2;refine cl en1017 (sa_n0 (ht.ext fg)) ?_;rintro l5 js iy rfl;have ac := be iy.2 ac;have bb := be iy.2 bb;have en := be iy.2 en;have e8 := be iy.2 e8;have fe := be iy.2 fe;have fg := xt fg iy.2;refine go ?_;refine al inf1032 (fun l6 iz j3 => ?_);have ac := be iz.2 ac;have bb := be iz.2 bb;have en := be iz.2 en;have e8 := be iz.2 e8;have fe := be iz.2 fe;have fg := xt fg iz.2;refine SA j3 (fun l7 iq fh => ?_);have ac := pb iq ac;have bb := pb iq bb;have en := pb iq en;have e8 := pb iq e8;have fe := pb iq fe;have fg := plw iq fg;have l8 := psz iq;refine go ?_;refine clb en1009 (hc := lOf_ok (by unfold In64; decide) (by unfold In64; decide) dc (ht.ext fg)) (hk := ?_)
 rintro l9 ma ir rfl;have ac := be ir.2 ac;have bb := be ir.2 bb;have en := be ir.2 en;have e8 := be ir.2 e8;have fe := be ir.2 fe;have fh := be ir.2 fh;have fg := xt fg ir.2;refine cl en1013 (sa_l0 (ht.ext fg)) ?_;rintro mb j4 iu rfl;have ac := be iu.2 ac;have bb := be iu.2 bb;have en := be iu.2 en;have e8 := be iu.2 e8;have fe := be iu.2 fe;have fh := be iu.2 fh;have fg := xt fg iu.2;refine go ?_;refine al inf1032 (fun mc iv j5 => ?_);have ac := be iv.2 ac;have bb := be iv.2 bb;have en := be iv.2 en;have e8 := be iv.2 e8;have fe := be iv.2 fe;have fh := be iv.2 fh;have fg := xt fg iv.2;refine SA j5 (fun me gm fj => ?_);have ac := pb gm ac;have bb := pb gm bb;have en := pb gm en;have e8 := pb gm e8;have fe := pb gm fe;have fh := pb gm fh;have fg := plw gm fg;have mf := psz gm;refine go ?_;refine clb en1009 (hc := lOf_ok (by unfold In64; decide) (by unfold In64; decide) dc (ht.ext fg)) (hk := ?_);rintro mg mh gp rfl;have ac := be gp.2 ac;have bb := be gp.2 bb;have en := be gp.2 en;have e8 := be gp.2 e8;have fe := be gp.2 fe;have fh := be gp.2 fh;have fj := be gp.2 fj;have fg := xt fg gp.2;refine cl en1010 (sa_e13 (ht.ext fg)) ?_;rintro mi j6 gq rfl;have ac := be gq.2 ac;have bb := be gq.2 bb;have en := be gq.2 en
 have e8 := be gq.2 e8;have fe := be gq.2 fe;have fh := be gq.2 fh;have fj := be gq.2 fj;have fg := xt fg gq.2;refine go ?_;refine al inf1032 (fun mj gu j7 => ?_);have ac := be gu.2 ac;have bb := be gu.2 bb;have en := be gu.2 en;have e8 := be gu.2 e8;have fe := be gu.2 fe;have fh := be gu.2 fh;have fj := be gu.2 fj;have fg := xt fg gu.2;refine SA j7 (fun ml fm fk => ?_);have ac := pb fm ac;have bb := pb fm bb;have en := pb fm en;have e8 := pb fm e8;have fe := pb fm fe;have fh := pb fm fh;have fj := pb fm fj;have fg := plw fm fg;have mm := psz fm;refine go ?_;refine c_an 26 ?_;refine sf ?_;refine sf_ap (fun my mz gy m0 => by have ac := be gy ac;refine go ?_;refine l_op (k_loadA (cs := [S ((qR 2718 (tenI 3)).1), S ((qR 2718 (tenI 3)).2), S ((qR 2719 (tenI 3)).1), S ((qR 2719 (tenI 3)).2)]) (b := jj.heap.size) (o := 0) U1032 rfl sz1032 rfl (Blk.cells ac (i := 0) rfl) ?_);refine go ?_;exact finp) ?_
 refine sf_ae (V := .bool (true)) (fun m5 m6 fo m7 => ?_) ?_;refine go ?_;refine clb en1022 (hc := cEq (Y := .bool true) (cell6_ok (x := ((qR 2718 (tenI 3)), (qR 2719 (tenI 3)))) (pl := 3) dc dc dc (ht.ext (xt fg fo))) (congrArg Value.bool (decide_eq_true rfl))) (hk := ?_);rintro m8 m9 fp rfl;have j8 := fp.2;refine go ?_;exact fs ⟨j8, rfl⟩;refine sf ?_;refine sf_ap (fun nj nk g7 nl => by have bb := be g7 bb;refine go ?_;refine l_op (k_loadA (cs := [S ((qR (-693148) (tenI 6)).1), S ((qR (-693148) (tenI 6)).2), S ((qR (-693147) (tenI 6)).1), S ((qR (-693147) (tenI 6)).2)]) (b := jm.heap.size) (o := 0) U1032 rfl sz1032 rfl (Blk.cells bb (i := 0) rfl) ?_);refine go ?_;exact finp) ?_
 refine sf_ae (V := .bool (true)) (fun nn nu fq nw => ?_) ?_;refine go ?_;refine clb en1022 (hc := cEq (Y := .bool true) (cell6_ok (x := ((qR (-693148) (tenI 6)), (qR (-693147) (tenI 6)))) (pl := 6) dc dc dc (ht.ext (xt fg fq))) (congrArg Value.bool (decide_eq_true rfl))) (hk := ?_);rintro nz n3 fw rfl;have j9 := fw.2;refine go ?_;exact fs ⟨j9, rfl⟩;refine sf ?_;refine sf_ap (fun oc oe ia og => by have en := be ia en;refine go ?_;refine l_op (k_loadA (cs := [S ((qR 1349 (tenI 6)).1), S ((qR 1349 (tenI 6)).2), S ((qR 1350 (tenI 6)).1), S ((qR 1350 (tenI 6)).2)]) (b := jp.heap.size) (o := 0) U1032 rfl sz1032 rfl (Blk.cells en (i := 0) rfl) ?_);refine go ?_;exact finp) ?_
 refine sf_ae (V := .bool (true)) (fun oh oi f6 ol => ?_) ?_;refine go ?_;refine clb en1022 (hc := cEq (Y := .bool true) (cell6_ok (x := ((qR 1349 (tenI 6)), (qR 1350 (tenI 6)))) (pl := 6) dc dc dc (ht.ext (xt fg f6))) (congrArg Value.bool (decide_eq_true rfl))) (hk := ?_);rintro ot ou f7 rfl;have ka := f7.2;refine go ?_;exact fs ⟨ka, rfl⟩;refine sf ?_;refine sf_ap (fun o6 o7 ig o8 => by have e8 := be ig e8;refine go ?_;refine l_op (k_loadA (cs := [S ((qR 317310 (tenI 6)).1), S ((qR 317310 (tenI 6)).2), S ((qR 317311 (tenI 6)).1), S ((qR 317311 (tenI 6)).2)]) (b := jq.heap.size) (o := 0) U1032 rfl sz1032 rfl (Blk.cells e8 (i := 0) rfl) ?_);refine go ?_;exact finp) ?_
 refine sf_ae (V := .bool (true)) (fun o9 pc f8 pf => ?_) ?_;refine go ?_;refine clb en1022 (hc := cEq (Y := .bool true) (cell6_ok (x := ((qR 317310 (tenI 6)), (qR 317311 (tenI 6)))) (pl := 6) dc dc dc (ht.ext (xt fg f8))) (congrArg Value.bool (decide_eq_true rfl))) (hk := ?_);rintro pg pj gc rfl;have kb := gc.2;refine go ?_;exact fs ⟨kb, rfl⟩;refine sf ?_;refine sf_ap (fun pt pu ik pw => by have fe := be ik fe;refine go ?_;refine l_op (k_loadA (cs := [S ((qR 1959 (tenI 3)).1), S ((qR 1959 (tenI 3)).2), S ((qR 1960 (tenI 3)).1), S ((qR 1960 (tenI 3)).2)]) (b := jr.heap.size) (o := 0) U1032 rfl sz1032 rfl (Blk.cells fe (i := 0) rfl) ?_);refine go ?_;exact finp) ?_
 refine sf_ae (V := .bool (true)) (fun px py gd p0 => ?_) ?_;refine go ?_;refine clb en1022 (hc := cEq (Y := .bool true) (cell6_ok (x := ((qR 1959 (tenI 3)), (qR 1960 (tenI 3)))) (pl := 3) dc dc dc (ht.ext (xt fg gd))) (congrArg Value.bool (decide_eq_true rfl))) (hk := ?_);rintro p7 p9 gg rfl;have ke := gg.2;refine go ?_;exact fs ⟨ke, rfl⟩;refine sf ?_;refine sf_ap (fun qh qj io qk => by have fh := be io fh;refine go ?_;refine l_op (k_loadA (cs := [S ((qR 50 (tenI 2)).1), S ((qR 50 (tenI 2)).2), S ((qR 50 (tenI 2)).1), S ((qR 50 (tenI 2)).2)]) (b := js.heap.size) (o := 0) U1032 rfl sz1032 rfl (Blk.cells fh (i := 0) rfl) ?_);refine go ?_;exact finp) ?_
 refine sf_ae (V := .agg #[S ((qR 1 2).1), S ((qR 1 2).2)]) (fun ql qm gh qn => ?_) ?_;refine go ?_;refine clb en1009 (hc := lOf_ok (by unfold In64; decide) (by unfold In64; decide) dc (ht.ext (xt fg gh))) (hk := ?_);rintro qo qq gi rfl;have kf := gi.2;refine go ?_;exact fs ⟨kf, rfl⟩;refine sf_ae (V := .agg #[S ((qR 1 2).1), S ((qR 1 2).2)]) (fun qr qy gj q5 => ?_) ?_;refine go ?_;refine clb en1009 (hc := lOf_ok (by unfold In64; decide) (by unfold In64; decide) dc (ht.ext (xt fg gj))) (hk := ?_);rintro q6 q7 gk rfl;have kg := gk.2;refine go ?_;exact fs ⟨kg, rfl⟩;refine sf_ap (fun q8 q9 ip ra => by refine go ?_;refine l_op (k_build (vs := [(0, .agg #[S ((qR 1 2).1), S ((qR 1 2).2)]), (1, .agg #[S ((qR 1 2).1), S ((qR 1 2).2)])]) (cells := #[S ((qR 1 2).1), S ((qR 1 2).2), S ((qR 1 2).1), S ((qR 1 2).2)]) (pl := [(0, 2), (2, 2)]) U1032 inf1032 (by kernel_rfl) rfl (by kernel_rfl) ?_);refine go ?_;exact finp) ?_
 refine sf ?_;intro rb rd gl re;have fg := xt fg gl.2;with_reducible refine l_drop rfl ?_
 refine go ?_;refine l_op (k_eqlI (a := (qR 50 (tenI 2), qR 50 (tenI 2))) (b := (qR 1 2, qR 1 2)) (q := true) rfl rfl (decide_eq_true (half_50)) ?_);refine go ?_;exact f_ret1 (t := 0) (v := .bool (true)) rfl fg rfl rfl
end Go.Proofs.YteojhdahhaodoaaGreatDoor
