/- Part of the proof of a statement about the special functions. -/
import Derived.Test.YteojhdahhaodoaaGreatDoorInt11ToRat1
import Derived.Test.YteojhdahhaodoaaGreatDoorEngSToEngQ
import Derived.Test.YteojhdahhaodoaaGreatDoorEngGToInt1
set_option linter.all false
namespace Go.Proofs.YteojhdahhaodoaaGreatDoor
set_option maxRecDepth 100000
open Go Go.Eng Go.RowKit
attribute [local irreducible] wpListIn Code.wpIn Oper.wpIn Exit.then Exit.inBlock Exit.noGoto
set_option maxHeartbeats 40000000
def cellsR (l : List R) : List Value := l.flatMap fun a => [S a.1, S a.2]
theorem cellsR_len (l : List R) : (cellsR l).length = l.length * 2 := by
  induction l with
  | nil => rfl
  | cons a t ih => simp [cellsR] at ih ⊢; omega
theorem cellsR_one {l : List R} : ∀ u ∈ cellsR l, u.oneCell' = true := by
  intro u hu
  obtain ⟨a, _, ha⟩ := List.mem_flatMap.1 hu
  simp at ha
  rcases ha with rfl | rfl <;> rfl
theorem cellsR_append (a b : List R) : cellsR (a ++ b) = cellsR a ++ cellsR b := by simp [cellsR]
def rAt (l : List R) (i : Nat) : R := l.getD i ([], [])
theorem cellsR_get : ∀ {l : List R} {i : Nat}, i < l.length → (cellsR l)[i * 2]? = some (S (rAt l i).1) ∧ (cellsR l)[i * 2 + 1]? = some (S (rAt l i).2)
  | a :: t, 0, _ => by simp [cellsR, rAt]
  | a :: t, i + 1, h => by
    have ih := cellsR_get (l := t) (i := i) (by simpa using h)
    rw [show (i + 1) * 2 = i * 2 + 2 by omega, show i * 2 + 2 + 1 = i * 2 + 1 + 2 by omega]
    simpa [cellsR, rAt] using ih
theorem rw_pair {w : World} {lo i : Nat} {A : Option Addr} {l : List R} (h : Rw w lo A (cellsR l)) (hi : i < l.length) : ∃ b o, A = some ⟨b, o, none⟩ ∧ ∀ j u, [S (rAt l i).1, S (rAt l i).2][j]? = some u → w.cell? ⟨b, o + i * 2 + j, none⟩ = some u := by
  obtain ⟨h1, h2⟩ := cellsR_get hi
  obtain ⟨b, o, hA, hc1⟩ := h.cells _ _ h1
  obtain ⟨b', o', hA', hc2⟩ := h.cells _ _ h2
  rw [hA] at hA'; cases hA'
  refine ⟨b, o, hA, fun j u hu => ?_⟩
  match j, hu with
  | 0, hu => simp at hu; subst hu; simpa using hc1
  | 1, hu => simp at hu; subst hu; simpa [Nat.add_assoc] using hc2
def ckB (bad : Bool) (l : List R) : Bool := bad || l.any fun a => !okR a
theorem ck_step {bad : Bool} {l : List R} {i : Nat} (hi : i < l.length) : ckB bad (l.take (i + 1)) = (ckB bad (l.take i) || !okR (rAt l i)) := by
  have : l.take (i + 1) = l.take i ++ [rAt l i] := by
    rw [List.take_succ_eq_append_getElem hi]; simp [rAt, hi]
  rw [this]; simp [ckB, Bool.or_assoc]
theorem ck_t {bad : Bool} {l : List R} {i : Nat} (hi : i < l.length) (h : ckB bad (l.take i) = true) : ckB bad (l.take (i + 1)) = true := by rw [ck_step hi, h]; rfl
theorem ck_f {bad : Bool} {l : List R} {i : Nat} (hi : i < l.length) (h : ckB bad (l.take i) = false) : ckB bad (l.take (i + 1)) = !okR ((rAt l i).1, (rAt l i).2) := by rw [ck_step hi, h]; rfl
theorem cmpS_zero {d : List UInt8} (h : isInt d = true) : cmpS d [48] = cmpI (valZ d) 0 := by unfold cmpS; rw [if_pos (by rw [h, isInt_zero]; rfl), valZ_zero]
theorem cmpI_neg {x y : Int} : cmpI x y < 0 ↔ x < y := by
  unfold cmpI; split
  · simp [*]
  · split <;> simp [*]
theorem cmpI_nonpos {x y : Int} : cmpI x y ≤ 0 ↔ x ≤ y := by
  unfold cmpI; split
  · simp; omega
  · split <;> simp <;> omega
theorem subI_zero {n : List UInt8} (h : isInt n = true) : subI [48] n = some (showI (-valZ n)) := by
  rw [subI_ok (by rw [isInt_zero, h]; rfl), valZ_zero]
  unfold outI
  have hf : fits (0 - valZ n) = true := by
    have := fits_val h
    unfold fits at *
    rw [decide_eq_true_eq] at *
    omega
  rw [if_pos hf, Int.zero_sub]
theorem isInt_neg {n : List UInt8} (h : isInt n = true) : isInt (showI (-valZ n)) = true := by
  refine isInt_showI ?_
  have := fits_val h
  unfold fits at *
  rw [decide_eq_true_eq] at *
  omega
theorem fits_le {a b : Int} (h : fits b = true) (hl : a.natAbs ≤ b.natAbs) : fits a = true := by
  unfold fits at *
  rw [decide_eq_true_eq] at *
  exact Nat.lt_of_le_of_lt hl h
theorem ediv_abs_le (a : Int) (b : Nat) (hb : 0 < b) (hd : (b : Int) ∣ a) : (a / (b : Int)).natAbs ≤ a.natAbs := by
  obtain ⟨c, rfl⟩ := hd
  rw [Int.mul_ediv_cancel_left _ om, Int.natAbs_mul]
  exact Nat.le_mul_of_pos_left _ (by simpa using hb)
theorem redT_spec {n d : List UInt8} (hn : isInt n = true) (hd : isInt d = true) (h0 : valZ d ≠ 0) :
    redT false n d = some (showI (valZ n / ((Int.gcd (valZ n) (valZ d) : Nat) : Int)), showI (valZ d / ((Int.gcd (valZ n) (valZ d) : Nat) : Int))) := by
  have hg0 : 0 < Int.gcd (valZ n) (valZ d) := Int.gcd_pos_of_ne_zero_right _ h0
  have hgd : ((Int.gcd (valZ n) (valZ d) : Nat) : Int) ∣ valZ d := Int.gcd_dvd_right ..
  have hgn : ((Int.gcd (valZ n) (valZ d) : Nat) : Int) ∣ valZ n := Int.gcd_dvd_left ..
  have hgf : fits ((Int.gcd (valZ n) (valZ d) : Nat) : Int) = true := fits_le (fits_val hd) (by
    have := Nat.le_of_dvd om (Int.natAbs_dvd_natAbs.2 hgd)
    simpa using this)
  have hG : gcdI n d = some (showI ((Int.gcd (valZ n) (valZ d) : Nat) : Int)) := by
    unfold gcdI; rw [if_pos (by rw [hn, hd]; rfl)]; unfold outI; rw [if_pos hgf]
  generalize hg : Int.gcd (valZ n) (valZ d) = g at *
  have hgi := isInt_showI hgf
  have hdiv : ∀ {x : List UInt8}, isInt x = true → (g : Int) ∣ valZ x → (divI x (showI (g : Int))).map (·.1) = some (showI (valZ x / (g : Int))) := by
    intro x hx hdx
    rw [divI_ok (by rw [hx, hgi]; rfl) (by rw [body_showI, valN_showN]; simpa using hg0), valZ_showI]
    unfold outI
    rw [if_pos (fits_le (fits_val hx) (ediv_abs_le _ _ hg0 hdx))]
    rfl
  unfold redT
  rw [hG]
  simp only [dS, Bool.false_eq_true, if_false, rS, Option.getD_some]
  rw [hdiv hn hgn, hdiv hd hgd]
  rfl
theorem redW_spec {n d : List UInt8} (hn : isInt n = true) (hd : isInt d = true) : redW false n d = makeR (valZ n) (valZ d) := by
  unfold makeR
  by_cases h0 : valZ d = 0
  · rw [if_pos h0, redW_2 ((valZ_eq_zero hd).1 h0)]
  · have hd0 : ¬ d = [48] := fun e => h0 ((valZ_eq_zero hd).2 e)
    rw [if_neg h0]
    unfold redN redD
    by_cases hs : valZ d < 0
    · rw [redW_n rfl hd0 (by rw [cmpS_zero hd]; exact cmpI_neg.2 hs), subI_zero hn, subI_zero hd]
      simp only [dB, dS, Bool.false_or, Option.isNone_some, Bool.false_eq_true, if_false, rS, Option.getD_some]
      rw [redT_spec (isInt_neg hn) (isInt_neg hd) (by rw [valZ_showI]; omega), valZ_showI, valZ_showI, if_pos hs, if_pos hs]
      have : Int.gcd (-valZ n) (-valZ d) = Int.gcd (valZ n) (valZ d) := by rw [Int.gcd_neg, Int.neg_gcd]
      rw [this]
    · rw [redW_p rfl hd0 (by rw [cmpS_zero hd]; exact fun h => hs (cmpI_neg.1 h)), redT_spec hn hd h0, if_neg hs, if_neg hs]
theorem redW_bad (n d : List UInt8) : redW true n d = none := redW_1 rfl
theorem ck_two (a b : R) : ckB false [a, b] = !(okR a && okR b) := by simp [ckB]
theorem okR_1 {a : R} (h : okR a = true) : isInt a.1 = true := by simp only [okR, Bool.and_eq_true] at h; exact h.1.1.1
theorem okR_2 {a : R} (h : okR a = true) : isInt a.2 = true := by simp only [okR, Bool.and_eq_true] at h; exact h.1.1.2
theorem outI_isNone (n : Int) : (outI n).isNone = !fits n := by unfold outI; cases fits n <;> rfl
theorem outI_rS {n : Int} (h : fits n = true) : rS (outI n) = showI n := by unfold outI; rw [if_pos h]; rfl
theorem two_spec (okk : Bool) (n d : Int) {on od : Option (List UInt8)} (hn : okk = true → on = outI n) (hd : okk = true → od = outI d) :
    redW (dB (dB (!okk) on) od) (dS (!okk) on) (dS (dB (!okk) on) od) = if okk then bothF n d else none := by
  cases okk with
  | false => simp only [Bool.not_false, dB, Bool.true_or, redW_bad]; rfl
  | true =>
    rw [hn rfl, hd rfl]
    unfold bothF
    simp only [Bool.not_true, dB, dS, Bool.false_or, Bool.false_eq_true, if_false, outI_isNone, if_true]
    cases h1 : fits n with
    | false => simp only [Bool.not_false, Bool.true_or, redW_bad, Bool.false_and]; rfl
    | true =>
      cases h2 : fits d with
      | false => simp only [Bool.not_false, Bool.or_true, redW_bad, Bool.and_false]; rfl
      | true =>
        simp only [Bool.not_true, Bool.or_false, Bool.false_eq_true, if_false, Bool.and_self, if_true]
        rw [outI_rS h1, outI_rS h2, redW_spec (isInt_showI h1) (isInt_showI h2), valZ_showI, valZ_showI]
theorem mul_spec (x1 x2 y1 y2 : List UInt8) : resR (redW (dB (dB (ckB false [(x1, x2), (y1, y2)]) (mulI x1 y1)) (mulI x2 y2)) (dS (ckB false [(x1, x2), (y1, y2)]) (mulI x1 y1)) (dS (dB (ckB false [(x1, x2), (y1, y2)]) (mulI x1 y1)) (mulI x2 y2))) = resR (mulR (x1, x2) (y1, y2)) := by
  rw [ck_two, two_spec (okR (x1, x2) && okR (y1, y2)) (valZ x1 * valZ y1) (valZ x2 * valZ y2) (fun h => mulI_ok (by rw [okR_1 (and_l h), okR_1 (and_r h)]; rfl)) (fun h => mulI_ok (by rw [okR_2 (and_l h), okR_2 (and_r h)]; rfl))]
  rfl
theorem div_spec (x1 x2 y1 y2 : List UInt8) : resR (redW (dB (dB (ckB false [(x1, x2), (y1, y2)]) (mulI x1 y2)) (mulI x2 y1)) (dS (ckB false [(x1, x2), (y1, y2)]) (mulI x1 y2)) (dS (dB (ckB false [(x1, x2), (y1, y2)]) (mulI x1 y2)) (mulI x2 y1))) = resR (divR (x1, x2) (y1, y2)) := by
  rw [ck_two, two_spec (okR (x1, x2) && okR (y1, y2)) (valZ x1 * valZ y2) (valZ x2 * valZ y1) (fun h => mulI_ok (by rw [okR_1 (and_l h), okR_2 (and_r h)]; rfl)) (fun h => mulI_ok (by rw [okR_2 (and_l h), okR_1 (and_r h)]; rfl))]
  rfl
theorem four_spec (okk : Bool) (p q s d : Int) {op oq od : Option (List UInt8)} {os : List UInt8 → List UInt8 → Option (List UInt8)} (hp : okk = true → op = outI p) (hq : okk = true → oq = outI q) (hd : okk = true → od = outI d)
    (hs : fits p = true → fits q = true → os (showI p) (showI q) = outI s) :
    redW (dB (dB (dB (dB (!okk) op) oq) (os (dS (!okk) op) (dS (dB (!okk) op) oq))) od) (dS (dB (dB (!okk) op) oq) (os (dS (!okk) op) (dS (dB (!okk) op) oq))) (dS (dB (dB (dB (!okk) op) oq) (os (dS (!okk) op) (dS (dB (!okk) op) oq))) od)
      = if okk then (if fits p && fits q then bothF s d else none) else none := by
  cases okk with
  | false => simp only [Bool.not_false, dB, Bool.true_or, redW_bad]; rfl
  | true =>
    rw [hp rfl, hq rfl, hd rfl]
    cases h1 : fits p with
    | false => simp only [Bool.not_true, dB, Bool.false_or, outI_isNone, h1, Bool.not_false, Bool.true_or, redW_bad, Bool.false_and]; rfl
    | true =>
      cases h2 : fits q with
      | false => simp only [Bool.not_true, dB, Bool.false_or, outI_isNone, h1, h2, Bool.not_false, Bool.true_or, Bool.or_true, redW_bad, Bool.and_false]; rfl
      | true =>
        have e1 : dS (!true) (outI p) = showI p := by rw [← outI_rS h1]; rfl
        have e2 : dB (!true) (outI p) = false := by unfold dB; rw [outI_isNone, h1]; rfl
        have e3 : dS false (outI q) = showI q := by rw [← outI_rS h2]; rfl
        have e4 : dB false (outI q) = false := by unfold dB; rw [outI_isNone, h2]; rfl
        rw [e2, e4, e1, e3, hs h1 h2]
        have := two_spec true s d (on := outI s) (od := outI d) (fun _ => rfl) (fun _ => rfl)
        simpa using this
def sumW (os : List UInt8 → List UInt8 → Option (List UInt8)) (x1 x2 y1 y2 : List UInt8) (b : Bool) : Option R := redW (dB (dB (dB (dB b (mulI x1 y2)) (mulI y1 x2)) (os (dS b (mulI x1 y2)) (dS (dB b (mulI x1 y2)) (mulI y1 x2)))) (mulI x2 y2)) (dS (dB (dB b (mulI x1 y2)) (mulI y1 x2)) (os (dS b (mulI x1 y2)) (dS (dB b (mulI x1 y2)) (mulI y1 x2)))) (dS (dB (dB (dB b (mulI x1 y2)) (mulI y1 x2)) (os (dS b (mulI x1 y2)) (dS (dB b (mulI x1 y2)) (mulI y1 x2)))) (mulI x2 y2))
theorem add_spec (x1 x2 y1 y2 : List UInt8) : resR (sumW addI x1 x2 y1 y2 (ckB false [(x1, x2), (y1, y2)])) = resR (addR (x1, x2) (y1, y2)) :=
  congrArg resR ((congrArg (sumW addI x1 x2 y1 y2) (ck_two (x1, x2) (y1, y2))).trans
    (four_spec (okR (x1, x2) && okR (y1, y2)) (valZ x1 * valZ y2) (valZ y1 * valZ x2) (valZ x1 * valZ y2 + valZ y1 * valZ x2) (valZ x2 * valZ y2) (fun h => mulI_ok (by rw [okR_1 (and_l h), okR_2 (and_r h)]; rfl)) (fun h => mulI_ok (by rw [okR_2 (and_l h), okR_1 (and_r h)]; rfl)) (fun h => mulI_ok (by rw [okR_2 (and_l h), okR_2 (and_r h)]; rfl))
      (fun h1 h2 => by rw [addI_ok (by rw [isInt_showI h1, isInt_showI h2]; rfl), valZ_showI, valZ_showI])))
theorem sub_spec (x1 x2 y1 y2 : List UInt8) : resR (sumW subI x1 x2 y1 y2 (ckB false [(x1, x2), (y1, y2)])) = resR (subR (x1, x2) (y1, y2)) :=
  congrArg resR ((congrArg (sumW subI x1 x2 y1 y2) (ck_two (x1, x2) (y1, y2))).trans
    (four_spec (okR (x1, x2) && okR (y1, y2)) (valZ x1 * valZ y2) (valZ y1 * valZ x2) (valZ x1 * valZ y2 - valZ y1 * valZ x2) (valZ x2 * valZ y2) (fun h => mulI_ok (by rw [okR_1 (and_l h), okR_2 (and_r h)]; rfl)) (fun h => mulI_ok (by rw [okR_2 (and_l h), okR_1 (and_r h)]; rfl)) (fun h => mulI_ok (by rw [okR_2 (and_l h), okR_2 (and_r h)]; rfl))
      (fun h1 h2 => by rw [subI_ok (by rw [isInt_showI h1, isInt_showI h2]; rfl), valZ_showI, valZ_showI])))
theorem check_ok {b : Nat} {bad : Bool} {w : World} (hB : Blk w b 86 #[.bool bad]) (ht : Tb w) {A : Option Addr} {n c lo : Nat} {rs : List R} (hr : Rw w lo A (cellsR rs)) (hn : rs.length = n) (hnb : n ≤ 1000000) (hAb : ∀ ad, A = some ad → ad.block ≠ b) :
    Calls Tryz.prog 60 #[.pointer (some ⟨b, 0, none⟩), .slice (A) (n) (c)] w (RetA fun v w' => w.grownBy w' (some b) ∧ Blk w' b 86 #[.bool (ckB bad rs)] ∧ v = .tuple #[]) := by
 have G := World.grownBy.refl w (some b);have hbl := bt hB;have uhr := fun ad e => And.intro (hr.hi ad e) (hAb ad e);refine f_inA Tryz.func60 rfl ?_;refine go ?_;refine c_lp [(5, 5), (8, 24)] (fun kk e W => ∃ i : Nat, (n - i = kk) ∧ (e 8 = .int .i64 i) ∧ (w.grownBy W (some b)) ∧ (i ≤ n) ∧ (True) ∧ (Tb W) ∧ (Rw W lo A (cellsR rs)) ∧ (Blk W (b) 86 #[.bool (ckB bad (rs.take i))])) (n - (0)) ⟨0, rfl, rfl, G, (Nat.zero_le _), trivial, ht, hr, (by simpa [ckB] using hB)⟩ ?_;rintro fw f6 fk ⟨i, rfl, en, G, hi, fm, ht, hr, hB⟩;have f7 := World.grownBy.size G;by_cases hlt : i < n;obtain ⟨bk, o, hA, hcs⟩ := rw_pair hr (i := i) om;refine go ?_;refine l_op (k_indexAddr (i := i) (oo := o + i * 2) U23 sz36 rfl hA en om rfl ?_);refine l_op (k_loadA (cs := [S (rAt rs i).1, S (rAt rs i).2]) (b := bk) (o := o + i * 2) U36 rfl sz36 rfl hcs ?_);refine al inf36 (fun f8 fj fo => ?_);have ht := Tb.ext fj.2 ht;have hr := Rw.ext fj.2 hr;have hB := be fj.2 hB;have G := gb_ext G fj.2;refine SA fo (fun gc e8 bb => ?_);have ht := Tb.put e8 (fo) dc ht;have hr := Rw.putU e8 (fun ad e => by have := uhr ad e; omega) hr;have hB := pb e8 hB;have G := gb_putn G e8 om;have gd := psz e8;refine go ?_;rcases Bool.eq_false_or_eq_true (ckB bad (rs.take i)) with ac | ac;refine go ?_;refine SO hB (fun gg fe fp => ?_);have ht := Tb.put fe (hB) dc ht;have hr := Rw.putU fe (fun ad e => by have := uhr ad e; omega) hr
 have bb := pb fe bb;have G := gb_put G fe;have gh := psz fe;refine go ?_;refine l_op (k_add (a := (i : Int)) (b := 1) (c := ((i + 1 : Nat) : Int)) en rfl (by unfold In64; omega) om ?_);refine go ?_;exact lend ⟨i + 1, rfl, rfl, G, om, fm, ht, hr, (by first | (rw [ck_t om (by assumption)]; exact fp) | (rw [ck_f om (by assumption)]; exact fp))⟩;refine go ?_;refine cl en82 (rValid_ok ((rAt rs i).1) ((rAt rs i).2) _ ht) ?_;rintro gi gj fg rfl;have ht := Tb.ext fg.2 ht;have hr := Rw.ext fg.2 hr;have hB := be fg.2 hB;have bb := be fg.2 bb;have G := gb_ext G fg.2;refine go ?_;refine SO hB (fun gk fh fq => ?_);have ht := Tb.put fh (hB) dc ht;have hr := Rw.putU fh (fun ad e => by have := uhr ad e; omega) hr;have bb := pb fh bb;have G := gb_put G fh;have gl := psz fh;refine go ?_;refine l_op (k_add (a := (i : Int)) (b := 1) (c := ((i + 1 : Nat) : Int)) en rfl (by unfold In64; omega) om ?_);refine go ?_;exact lend ⟨i + 1, rfl, rfl, G, om, fm, ht, hr, (by first | (rw [ck_t om (by assumption)]; exact fq) | (rw [ck_f om (by assumption)]; exact fq))⟩;refine go ?_;refine f_endA (v := .tuple #[]) (res0  rfl ) ⟨G, (by rw [List.take_of_length_le om] at hB; exact hB), rfl⟩
theorem rDiv_ok (x1 x2 y1 y2 : List UInt8) (w : World) (ht : Tb w) :
    Calls Tryz.prog 76 #[.agg #[S (x1), S (x2)], .agg #[S (y1), S (y2)]] w (Ret w fun v w' => v = resR (divR (x1, x2) (y1, y2))) := by
 refine f_in Tryz.func76 rfl ?_;refine go ?_;refine bx (fun fp f8 bb => ?_);have ht := Tb.ext f8.2 ht;have ac := f8.2;refine bx (fun gc f7 en => ?_);have ht := Tb.ext f7.2 ht;have bb := be f7.2 bb;have ac := xt ac f7.2;refine al inf36 (fun fe fw e8 => ?_);have ht := Tb.ext fw.2 ht;have bb := be fw.2 bb;have en := be fw.2 en;have ac := xt ac fw.2;refine go ?_;refine bx (fun gj fq f6 => ?_);have ht := Tb.ext fq.2 ht;have bb := be fq.2 bb;have en := be fq.2 en;have e8 := be fq.2 e8;have ac := xt ac fq.2;refine go ?_;refine BS2 (fun gm fg gp gk => ?_);have ht := Tb.ext fg ht;have bb := be fg bb;have en := be fg en;have e8 := be fg e8;have f6 := be fg f6;have ac := xt ac fg;have gq := bz fg;refine l_op (k_callA (vs := [.pointer (some ⟨fe.heap.size, 0, none⟩), .slice (some ⟨gj.heap.size, 0, none⟩) (2) (2)]) en223 rfl (check_ok (rs := [(x1, x2), (y1, y2)]) f6 ht (Rw.of_own gk) rfl om (fun ad e => by cases e; simp; omega)) ?_);rintro gu gv ⟨fh, gd, rfl⟩;have ht := Tb.gr fh f6 dc ht;have bb := Blk.gr fh (by simp; omega) bb;have en := Blk.gr fh (by simp; omega) en;have e8 := Blk.gr fh (by simp; omega) e8;have ac := low_gr ac fh (bz ac) (fun g hgg => by cases hgg; omega);have gw := fh.size;refine go ?_;refine l_op (k_callA (vs := [.pointer (some ⟨fe.heap.size, 0, none⟩), S (x1), S (y2)]) en224 rfl (mul_ok gd ht x1 y2) ?_);rintro gy gz ⟨fj, gg, rfl⟩;have ht := Tb.gr fj gd dc ht
 have bb := Blk.gr fj (by simp; omega) bb;have en := Blk.gr fj (by simp; omega) en;have e8 := Blk.gr fj (by simp; omega) e8;have ac := low_gr ac fj (bz ac) (fun g hgg => by cases hgg; omega);have g6 := fj.size;refine go ?_;refine l_op (k_callA (vs := [.pointer (some ⟨fe.heap.size, 0, none⟩), S (x2), S (y1)]) en224 rfl (mul_ok gg ht x2 y1) ?_);rintro g7 g8 ⟨fk, gh, rfl⟩;have ht := Tb.gr fk gg dc ht;have bb := Blk.gr fk (by simp; omega) bb;have en := Blk.gr fk (by simp; omega) en;have e8 := Blk.gr fk (by simp; omega) e8;have ac := low_gr ac fk (bz ac) (fun g hgg => by cases hgg; omega);have g9 := fk.size;refine l_op (k_callA (vs := [.pointer (some ⟨fe.heap.size, 0, none⟩), S (dS (ckB false [(x1, x2), (y1, y2)]) (mulI x1 y2)), S (dS (dB (ckB false [(x1, x2), (y1, y2)]) (mulI x1 y2)) (mulI x2 y1))]) en225 rfl (red_ok gh ht (dS (ckB false [(x1, x2), (y1, y2)]) (mulI x1 y2)) (dS (dB (ckB false [(x1, x2), (y1, y2)]) (mulI x1 y2)) (mulI x2 y1))) ?_);rintro ia ib ⟨fm, ⟨ic, gi⟩, rfl⟩;have bb := Blk.gr fm (by simp; omega) bb;have en := Blk.gr fm (by simp; omega) en;have e8 := Blk.gr fm (by simp; omega) e8;have ac := low_gr ac fm (bz ac) (fun g hgg => by cases hgg; omega);have ie := fm.size;refine go ?_;refine SA e8 (fun ig fo gl => ?_);have bb := pb fo bb;have en := pb fo en;have gi := pb fo gi;have ac := plw fo ac;have ii := psz fo;refine go ?_;refine f_out (v := .tuple #[.agg #[S (rN (redW (dB (dB (ckB false [(x1, x2), (y1, y2)]) (mulI x1 y2)) (mulI x2 y1)) (dS (ckB false [(x1, x2), (y1, y2)]) (mulI x1 y2)) (dS (dB (ckB false [(x1, x2), (y1, y2)]) (mulI x1 y2)) (mulI x2 y1)))), S (rD (redW (dB (dB (ckB false [(x1, x2), (y1, y2)]) (mulI x1 y2)) (mulI x2 y1)) (dS (ckB false [(x1, x2), (y1, y2)]) (mulI x1 y2)) (dS (dB (ckB false [(x1, x2), (y1, y2)]) (mulI x1 y2)) (mulI x2 y1))))], .int .i64 (rER (redW (dB (dB (ckB false [(x1, x2), (y1, y2)]) (mulI x1 y2)) (mulI x2 y1)) (dS (ckB false [(x1, x2), (y1, y2)]) (mulI x1 y2)) (dS (dB (ckB false [(x1, x2), (y1, y2)]) (mulI x1 y2)) (mulI x2 y1))))]) (res2 (r1 := .cell 4 25) (r2 := .tmp 5) rfl ?_ ?_) ac (div_spec x1 x2 y1 y2)
 refine res_cellA (t := 4) (cs := [S (rN (redW (dB (dB (ckB false [(x1, x2), (y1, y2)]) (mulI x1 y2)) (mulI x2 y1)) (dS (ckB false [(x1, x2), (y1, y2)]) (mulI x1 y2)) (dS (dB (ckB false [(x1, x2), (y1, y2)]) (mulI x1 y2)) (mulI x2 y1)))), S (rD (redW (dB (dB (ckB false [(x1, x2), (y1, y2)]) (mulI x1 y2)) (mulI x2 y1)) (dS (ckB false [(x1, x2), (y1, y2)]) (mulI x1 y2)) (dS (dB (ckB false [(x1, x2), (y1, y2)]) (mulI x1 y2)) (mulI x2 y1))))]) (b := gc.heap.size) (o := 0) U36 rfl sz36 ?_ ?_;exact rfl;exact Blk.cells gl (i := 0) rfl;exact res_tmp (t := 5) (by exact rfl) _
theorem sum_add (x1 x2 y1 y2 : List UInt8) (w : World) (ht : Tb w) :
    Calls Tryz.prog 23 #[.func (.func 24) #[] #[], .agg #[S (x1), S (x2)], .agg #[S (y1), S (y2)]] w (Ret w fun v w' => v = resR (addR (x1, x2) (y1, y2))) := by
 refine f_in Tryz.func23 rfl ?_;refine go ?_;refine bx (fun fh gv bb => ?_);have ht := Tb.ext gv.2 ht;have ac := gv.2;refine bx (fun gd gl en => ?_);have ht := Tb.ext gl.2 ht;have bb := be gl.2 bb;have ac := xt ac gl.2;refine al inf36 (fun fg gg e8 => ?_);have ht := Tb.ext gg.2 ht;have bb := be gg.2 bb;have en := be gg.2 en;have ac := xt ac gg.2;refine go ?_;refine bx (fun g8 f8 gh => ?_);have ht := Tb.ext f8.2 ht;have bb := be f8.2 bb;have en := be f8.2 en;have e8 := be f8.2 e8;have ac := xt ac f8.2;refine go ?_;refine BS2 (fun kg fj kh g9 => ?_);have ht := Tb.ext fj ht;have bb := be fj bb;have en := be fj en;have e8 := be fj e8;have gh := be fj gh;have ac := xt ac fj;have ki := bz fj;refine l_op (k_callA (vs := [.pointer (some ⟨fg.heap.size, 0, none⟩), .slice (some ⟨g8.heap.size, 0, none⟩) (2) (2)]) en223 rfl (check_ok (rs := [(x1, x2), (y1, y2)]) gh ht (Rw.of_own g9) rfl om (fun ad e => by cases e; simp; omega)) ?_);rintro kj gw ⟨fm, fe, rfl⟩;have ht := Tb.gr fm gh dc ht;have bb := Blk.gr fm (by simp; omega) bb;have en := Blk.gr fm (by simp; omega) en;have e8 := Blk.gr fm (by simp; omega) e8;have ac := low_gr ac fm (bz ac) (fun g hgg => by cases hgg; omega);have km := fm.size;refine go ?_;have fk := Ext.drew gw;refine c_anyC hmix 15 (fun _ _ => True) (fun _ => trivial) (fun _ _ _ _ _ => trivial) [fun v _ => v = .pointer (some ⟨fg.heap.size, 0, none⟩), fun v _ => v = .func (.func 24) #[] #[], fun v _ => v = .pointer (some ⟨fg.heap.size, 0, none⟩), fun v _ => v = .pointer (some ⟨w.heap.size, 0, none⟩), fun v _ => v = S (x1), fun v _ => v = .pointer (some ⟨fh.heap.size, 1, none⟩), fun v _ => v = S (y2), fun v _ => v = S (dS (ckB false [(x1, x2), (y1, y2)]) (mulI x1 y2)), fun v _ => v = .pointer (some ⟨fg.heap.size, 0, none⟩), fun v _ => v = .pointer (some ⟨fh.heap.size, 0, none⟩), fun v _ => v = S (y1), fun v _ => v = .pointer (some ⟨w.heap.size, 1, none⟩), fun v _ => v = S (x2), fun v _ => v = S (dS (dB (ckB false [(x1, x2), (y1, y2)]) (mulI x1 y2)) (mulI y1 x2)), fun v _ => v = S (dS (dB (dB (ckB false [(x1, x2), (y1, y2)]) (mulI x1 y2)) (mulI y1 x2)) (addI (dS (ckB false [(x1, x2), (y1, y2)]) (mulI x1 y2)) (dS (dB (ckB false [(x1, x2), (y1, y2)]) (mulI x1 y2)) (mulI y1 x2))))] ⟨fun _ _ _ _ h => h, fun _ _ _ _ h => h, fun _ _ _ _ h => h, fun _ _ _ _ h => h, fun _ _ _ _ h => h, fun _ _ _ _ h => h, fun _ _ _ _ h => h, fun _ _ _ _ h => h, fun _ _ _ _ h => h, fun _ _ _ _ h => h, fun _ _ _ _ h => h, fun _ _ _ _ h => h, fun _ _ _ _ h => h, fun _ _ _ _ h => h, fun _ _ _ _ h => h, trivial⟩ (by kernel_rfl) (by kernel_rfl) (by kernel_rfl) [7, 13, 14] (by kernel_rfl) (by kernel_rfl) (by kernel_rfl) (fun k W => (Ext w W) ∧ (gw.heap.size ≤ W.heap.size) ∧ (Tb W) ∧ (Blk W (w.heap.size) 25 #[S (x1), S (x2)]) ∧ (Blk W (fh.heap.size) 25 #[S (y1), S (y2)]) ∧ (Blk W (gd.heap.size) 25 #[S ([]), S ([])]) ∧ (Blk W (fg.heap.size) 86 #[.bool (([ckB false [(x1, x2), (y1, y2)], dB (ckB false [(x1, x2), (y1, y2)]) (mulI x1 y2), dB (dB (ckB false [(x1, x2), (y1, y2)]) (mulI x1 y2)) (mulI y1 x2), dB (dB (dB (ckB false [(x1, x2), (y1, y2)]) (mulI x1 y2)) (mulI y1 x2)) (addI (dS (ckB false [(x1, x2), (y1, y2)]) (mulI x1 y2)) (dS (dB (ckB false [(x1, x2), (y1, y2)]) (mulI x1 y2)) (mulI y1 x2)))] : List Bool).getD k false)])) ⟨(xt ac fk), (bz fk), (Tb.ext fk ht), (be fk bb), (be fk en), (be fk e8), (be fk fe)⟩ ?_ ?_
 refine ⟨fun kn ko kp ia kq _ ib kr => ?_, ?_⟩;obtain ⟨kn, rfl⟩ := ovE ib;obtain ⟨ac, zst, ht, bb, en, e8, fe⟩ := ia;have ks := bz ac;refine go ?_;exact ⟨rfl, _, (act_put _ _ _ _ _).symm, trivial, rfl, ⟨ac, om, ht, bb, en, e8, fe⟩⟩;refine ⟨fun kt ku kv ic kw _ ie ky => ?_, ?_⟩;obtain ⟨kt, rfl⟩ := ovE ie;obtain ⟨ac, zst, ht, bb, en, e8, fe⟩ := ic;have kz := bz ac;refine go ?_;exact ⟨rfl, _, (act_put _ _ _ _ _).symm, trivial, rfl, ⟨ac, om, ht, bb, en, e8, fe⟩⟩;refine ⟨fun k4 k5 lc ig ld _ ii lf => ?_, ?_⟩;obtain ⟨k4, rfl⟩ := ovE ii;obtain ⟨ac, zst, ht, bb, en, e8, fe⟩ := ig;have lg := bz ac;refine go ?_;exact ⟨rfl, _, (act_put _ _ _ _ _).symm, trivial, rfl, ⟨ac, om, ht, bb, en, e8, fe⟩⟩;refine ⟨fun lh li lj ij lk _ ik ll => ?_, ?_⟩;obtain ⟨lh, rfl⟩ := ovE ik;obtain ⟨ac, zst, ht, bb, en, e8, fe⟩ := ij;have ln := bz ac;refine go ?_;exact ⟨rfl, _, (act_put _ _ _ _ _).symm, trivial, rfl, ⟨ac, om, ht, bb, en, e8, fe⟩⟩;refine ⟨fun il lu lv im lw _ lx io => ?_, ?_⟩;obtain ⟨il, rfl⟩ := ovE lx;obtain ⟨ac, zst, ht, bb, en, e8, fe⟩ := im;have lz := bz ac;have ip := zpv (io 3 20 rfl rfl);refine go ?_;exact ⟨rfl, _, (act_put _ _ _ _ _).symm, trivial, rfl, ⟨ac, om, ht, bb, en, e8, fe⟩⟩;refine ⟨fun l0 l5 l6 iq l7 _ ir l8 => ?_, ?_⟩;obtain ⟨l0, rfl⟩ := ovE ir;obtain ⟨ac, zst, ht, bb, en, e8, fe⟩ := iq;have l9 := bz ac;refine go ?_;exact ⟨rfl, _, (act_put _ _ _ _ _).symm, trivial, rfl, ⟨ac, om, ht, bb, en, e8, fe⟩⟩
 refine ⟨fun iu ma mb iv mc _ me iw => ?_, ?_⟩;obtain ⟨iu, rfl⟩ := ovE me;obtain ⟨ac, zst, ht, bb, en, e8, fe⟩ := iv;have mf := bz ac;have ix := zpv (iw 5 22 rfl rfl);refine go ?_;exact ⟨rfl, _, (act_put _ _ _ _ _).symm, trivial, rfl, ⟨ac, om, ht, bb, en, e8, fe⟩⟩;refine ⟨fun gm iy mg iz i6 _ mh gp => ?_, ?_⟩;obtain ⟨gm, rfl⟩ := ovE mh;obtain ⟨ac, zst, ht, bb, en, e8, fe⟩ := iz;obtain rfl := i6 0 rfl;have fe : Blk iy (fg.heap.size) 86 #[.bool (ckB false [(x1, x2), (y1, y2)])] := fe;have mi := bz ac;have i7 := zpv (gp 2 19 rfl rfl);have i8 := zpv (gp 4 21 rfl rfl);have ja := zpv (gp 6 23 rfl rfl);refine l_op (k_callA (vs := [.pointer (some ⟨fg.heap.size, 0, none⟩), S (x1), S (y2)]) en224 (cons_eq i7 (cons_eq i8 (cons_eq ja rfl))) (mul_ok fe ht x1 y2) ?_);rintro mj ml ⟨fo, jb, rfl⟩;have ht := Tb.gr fo fe dc ht;have bb := Blk.gr fo (by simp; omega) bb;have en := Blk.gr fo (by simp; omega) en;have e8 := Blk.gr fo (by simp; omega) e8;have ac := low_gr ac fo (bz ac) (fun g hgg => by cases hgg; omega);have mm := fo.size;refine go ?_;exact ⟨rfl, _, (act_put _ _ _ _ _).symm, trivial, rfl, ⟨ac, om, ht, bb, en, e8, jb⟩⟩;refine ⟨fun mo mp mu jc mv _ jd mw => ?_, ?_⟩;obtain ⟨mo, rfl⟩ := ovE jd;obtain ⟨ac, zst, ht, bb, en, e8, fe⟩ := jc;have mx := bz ac;refine go ?_;exact ⟨rfl, _, (act_put _ _ _ _ _).symm, trivial, rfl, ⟨ac, om, ht, bb, en, e8, fe⟩⟩;refine ⟨fun my mz m0 je m5 _ jf m6 => ?_, ?_⟩;obtain ⟨my, rfl⟩ := ovE jf;obtain ⟨ac, zst, ht, bb, en, e8, fe⟩ := je
 have m7 := bz ac;refine go ?_;exact ⟨rfl, _, (act_put _ _ _ _ _).symm, trivial, rfl, ⟨ac, om, ht, bb, en, e8, fe⟩⟩;refine ⟨fun jg m8 m9 jh na _ nc ji => ?_, ?_⟩;obtain ⟨jg, rfl⟩ := ovE nc;obtain ⟨ac, zst, ht, bb, en, e8, fe⟩ := jh;have nd := bz ac;have jj := zpv (ji 9 26 rfl rfl);refine go ?_;exact ⟨rfl, _, (act_put _ _ _ _ _).symm, trivial, rfl, ⟨ac, om, ht, bb, en, e8, fe⟩⟩;refine ⟨fun nf nh ni jk nj _ jl nk => ?_, ?_⟩;obtain ⟨nf, rfl⟩ := ovE jl;obtain ⟨ac, zst, ht, bb, en, e8, fe⟩ := jk;have nl := bz ac;refine go ?_;exact ⟨rfl, _, (act_put _ _ _ _ _).symm, trivial, rfl, ⟨ac, om, ht, bb, en, e8, fe⟩⟩;refine ⟨fun jm nn nu jn nw _ nz jo => ?_, ?_⟩;obtain ⟨jm, rfl⟩ := ovE nz;obtain ⟨ac, zst, ht, bb, en, e8, fe⟩ := jn;have n3 := bz ac;have jp := zpv (jo 11 28 rfl rfl);refine go ?_;exact ⟨rfl, _, (act_put _ _ _ _ _).symm, trivial, rfl, ⟨ac, om, ht, bb, en, e8, fe⟩⟩;refine ⟨fun gq jq n4 jr js _ n6 gu => ?_, ?_⟩;obtain ⟨gq, rfl⟩ := ovE n6;obtain ⟨ac, zst, ht, bb, en, e8, fe⟩ := jr;obtain rfl := js 1 rfl;have fe : Blk jq (fg.heap.size) 86 #[.bool (dB (ckB false [(x1, x2), (y1, y2)]) (mulI x1 y2))] := fe;have n7 := bz ac;have jt := zpv (gu 8 25 rfl rfl);have ju := zpv (gu 10 27 rfl rfl);have jv := zpv (gu 12 29 rfl rfl);refine l_op (k_callA (vs := [.pointer (some ⟨fg.heap.size, 0, none⟩), S (y1), S (x2)]) en224 (cons_eq jt (cons_eq ju (cons_eq jv rfl))) (mul_ok fe ht y1 x2) ?_);rintro n8 n9 ⟨fp, jw, rfl⟩;have ht := Tb.gr fp fe dc ht
 have bb := Blk.gr fp (by simp; omega) bb;have en := Blk.gr fp (by simp; omega) en;have e8 := Blk.gr fp (by simp; omega) e8;have ac := low_gr ac fp (bz ac) (fun g hgg => by cases hgg; omega);have oa := fp.size;refine go ?_;exact ⟨rfl, _, (act_put _ _ _ _ _).symm, trivial, rfl, ⟨ac, om, ht, bb, en, e8, jw⟩⟩;refine ⟨fun gi jx oc jy jz _ oe gj => ?_, ?_⟩;obtain ⟨gi, rfl⟩ := ovE oe;obtain ⟨ac, zst, ht, bb, en, e8, fe⟩ := jy;obtain rfl := jz 2 rfl;have fe : Blk jx (fg.heap.size) 86 #[.bool (dB (dB (ckB false [(x1, x2), (y1, y2)]) (mulI x1 y2)) (mulI y1 x2))] := fe;have og := bz ac;have j2 := zpv (gj 0 17 rfl rfl);have j3 := zpv (gj 1 18 rfl rfl);have j4 := zpv (gj 7 24 rfl rfl);have j5 := zpv (gj 13 30 rfl rfl);refine l_op (k_callA (vs := [.pointer (some ⟨fg.heap.size, 0, none⟩), .func (.func 24) #[] #[], S (dS (ckB false [(x1, x2), (y1, y2)]) (mulI x1 y2)), S (dS (dB (ckB false [(x1, x2), (y1, y2)]) (mulI x1 y2)) (mulI y1 x2))]) en227 (cons_eq j2 (cons_eq j3 (cons_eq j4 (cons_eq j5 rfl)))) (do_ok (o := addI (dS (ckB false [(x1, x2), (y1, y2)]) (mulI x1 y2)) (dS (dB (ckB false [(x1, x2), (y1, y2)]) (mulI x1 y2)) (mulI y1 x2))) fe ht en222 (fun W hW => iAdd_ok _ _ W hW)) ?_);rintro oh oi ⟨fq, j6, rfl⟩;have ht := Tb.gr fq fe dc ht;have bb := Blk.gr fq (by simp; omega) bb;have en := Blk.gr fq (by simp; omega) en;have e8 := Blk.gr fq (by simp; omega) e8;have ac := low_gr ac fq (bz ac) (fun g hgg => by cases hgg; omega);have ol := fq.size;refine go ?_
 exact ⟨rfl, _, (act_put _ _ _ _ _).symm, trivial, rfl, ⟨ac, om, ht, bb, en, e8, j6⟩⟩;exact trivial;intro gc j7 j8 _ gk j9;obtain ⟨gc, rfl⟩ := ovE gk;obtain ⟨ac, zst, ht, bb, en, e8, fe⟩ := j8;have fe : Blk j7 (fg.heap.size) 86 #[.bool (dB (dB (dB (ckB false [(x1, x2), (y1, y2)]) (mulI x1 y2)) (mulI y1 x2)) (addI (dS (ckB false [(x1, x2), (y1, y2)]) (mulI x1 y2)) (dS (dB (ckB false [(x1, x2), (y1, y2)]) (mulI x1 y2)) (mulI y1 x2))))] := fe;have ot := bz ac;have ka := zpv (j9 14 31 rfl rfl);refine go ?_;refine l_op (k_callA (vs := [.pointer (some ⟨fg.heap.size, 0, none⟩), S (x2), S (y2)]) en224 rfl (mul_ok fe ht x2 y2) ?_);rintro ou ow ⟨fw, gz, rfl⟩;have ht := Tb.gr fw fe dc ht;have bb := Blk.gr fw (by simp; omega) bb;have en := Blk.gr fw (by simp; omega) en;have e8 := Blk.gr fw (by simp; omega) e8;have ac := low_gr ac fw (bz ac) (fun g hgg => by cases hgg; omega);have ox := fw.size;refine l_op (k_callA (vs := [.pointer (some ⟨fg.heap.size, 0, none⟩), S (dS (dB (dB (ckB false [(x1, x2), (y1, y2)]) (mulI x1 y2)) (mulI y1 x2)) (addI (dS (ckB false [(x1, x2), (y1, y2)]) (mulI x1 y2)) (dS (dB (ckB false [(x1, x2), (y1, y2)]) (mulI x1 y2)) (mulI y1 x2)))), S (dS (dB (dB (dB (ckB false [(x1, x2), (y1, y2)]) (mulI x1 y2)) (mulI y1 x2)) (addI (dS (ckB false [(x1, x2), (y1, y2)]) (mulI x1 y2)) (dS (dB (ckB false [(x1, x2), (y1, y2)]) (mulI x1 y2)) (mulI y1 x2)))) (mulI x2 y2))]) en225 rfl (red_ok gz ht (dS (dB (dB (ckB false [(x1, x2), (y1, y2)]) (mulI x1 y2)) (mulI y1 x2)) (addI (dS (ckB false [(x1, x2), (y1, y2)]) (mulI x1 y2)) (dS (dB (ckB false [(x1, x2), (y1, y2)]) (mulI x1 y2)) (mulI y1 x2)))) (dS (dB (dB (dB (ckB false [(x1, x2), (y1, y2)]) (mulI x1 y2)) (mulI y1 x2)) (addI (dS (ckB false [(x1, x2), (y1, y2)]) (mulI x1 y2)) (dS (dB (ckB false [(x1, x2), (y1, y2)]) (mulI x1 y2)) (mulI y1 x2)))) (mulI x2 y2))) ?_)
 rintro oy oz ⟨f6, ⟨o0, g6⟩, rfl⟩;have bb := Blk.gr f6 (by simp; omega) bb;have en := Blk.gr f6 (by simp; omega) en;have e8 := Blk.gr f6 (by simp; omega) e8;have ac := low_gr ac f6 (bz ac) (fun g hgg => by cases hgg; omega);have o5 := f6.size;refine go ?_;refine SA e8 (fun o6 f7 kf => ?_);have bb := pb f7 bb;have en := pb f7 en;have g6 := pb f7 g6;have ac := plw f7 ac;have o7 := psz f7;refine go ?_;refine f_out (v := .tuple #[.agg #[S (rN (redW (dB (dB (dB (dB (ckB false [(x1, x2), (y1, y2)]) (mulI x1 y2)) (mulI y1 x2)) (addI (dS (ckB false [(x1, x2), (y1, y2)]) (mulI x1 y2)) (dS (dB (ckB false [(x1, x2), (y1, y2)]) (mulI x1 y2)) (mulI y1 x2)))) (mulI x2 y2)) (dS (dB (dB (ckB false [(x1, x2), (y1, y2)]) (mulI x1 y2)) (mulI y1 x2)) (addI (dS (ckB false [(x1, x2), (y1, y2)]) (mulI x1 y2)) (dS (dB (ckB false [(x1, x2), (y1, y2)]) (mulI x1 y2)) (mulI y1 x2)))) (dS (dB (dB (dB (ckB false [(x1, x2), (y1, y2)]) (mulI x1 y2)) (mulI y1 x2)) (addI (dS (ckB false [(x1, x2), (y1, y2)]) (mulI x1 y2)) (dS (dB (ckB false [(x1, x2), (y1, y2)]) (mulI x1 y2)) (mulI y1 x2)))) (mulI x2 y2)))), S (rD (redW (dB (dB (dB (dB (ckB false [(x1, x2), (y1, y2)]) (mulI x1 y2)) (mulI y1 x2)) (addI (dS (ckB false [(x1, x2), (y1, y2)]) (mulI x1 y2)) (dS (dB (ckB false [(x1, x2), (y1, y2)]) (mulI x1 y2)) (mulI y1 x2)))) (mulI x2 y2)) (dS (dB (dB (ckB false [(x1, x2), (y1, y2)]) (mulI x1 y2)) (mulI y1 x2)) (addI (dS (ckB false [(x1, x2), (y1, y2)]) (mulI x1 y2)) (dS (dB (ckB false [(x1, x2), (y1, y2)]) (mulI x1 y2)) (mulI y1 x2)))) (dS (dB (dB (dB (ckB false [(x1, x2), (y1, y2)]) (mulI x1 y2)) (mulI y1 x2)) (addI (dS (ckB false [(x1, x2), (y1, y2)]) (mulI x1 y2)) (dS (dB (ckB false [(x1, x2), (y1, y2)]) (mulI x1 y2)) (mulI y1 x2)))) (mulI x2 y2))))], .int .i64 (rER (redW (dB (dB (dB (dB (ckB false [(x1, x2), (y1, y2)]) (mulI x1 y2)) (mulI y1 x2)) (addI (dS (ckB false [(x1, x2), (y1, y2)]) (mulI x1 y2)) (dS (dB (ckB false [(x1, x2), (y1, y2)]) (mulI x1 y2)) (mulI y1 x2)))) (mulI x2 y2)) (dS (dB (dB (ckB false [(x1, x2), (y1, y2)]) (mulI x1 y2)) (mulI y1 x2)) (addI (dS (ckB false [(x1, x2), (y1, y2)]) (mulI x1 y2)) (dS (dB (ckB false [(x1, x2), (y1, y2)]) (mulI x1 y2)) (mulI y1 x2)))) (dS (dB (dB (dB (ckB false [(x1, x2), (y1, y2)]) (mulI x1 y2)) (mulI y1 x2)) (addI (dS (ckB false [(x1, x2), (y1, y2)]) (mulI x1 y2)) (dS (dB (ckB false [(x1, x2), (y1, y2)]) (mulI x1 y2)) (mulI y1 x2)))) (mulI x2 y2))))]) (res2 (r1 := .cell 6 25) (r2 := .tmp 7) rfl ?_ ?_) ac (add_spec x1 x2 y1 y2)
 refine res_cellA (t := 6) (cs := [S (rN (redW (dB (dB (dB (dB (ckB false [(x1, x2), (y1, y2)]) (mulI x1 y2)) (mulI y1 x2)) (addI (dS (ckB false [(x1, x2), (y1, y2)]) (mulI x1 y2)) (dS (dB (ckB false [(x1, x2), (y1, y2)]) (mulI x1 y2)) (mulI y1 x2)))) (mulI x2 y2)) (dS (dB (dB (ckB false [(x1, x2), (y1, y2)]) (mulI x1 y2)) (mulI y1 x2)) (addI (dS (ckB false [(x1, x2), (y1, y2)]) (mulI x1 y2)) (dS (dB (ckB false [(x1, x2), (y1, y2)]) (mulI x1 y2)) (mulI y1 x2)))) (dS (dB (dB (dB (ckB false [(x1, x2), (y1, y2)]) (mulI x1 y2)) (mulI y1 x2)) (addI (dS (ckB false [(x1, x2), (y1, y2)]) (mulI x1 y2)) (dS (dB (ckB false [(x1, x2), (y1, y2)]) (mulI x1 y2)) (mulI y1 x2)))) (mulI x2 y2)))), S (rD (redW (dB (dB (dB (dB (ckB false [(x1, x2), (y1, y2)]) (mulI x1 y2)) (mulI y1 x2)) (addI (dS (ckB false [(x1, x2), (y1, y2)]) (mulI x1 y2)) (dS (dB (ckB false [(x1, x2), (y1, y2)]) (mulI x1 y2)) (mulI y1 x2)))) (mulI x2 y2)) (dS (dB (dB (ckB false [(x1, x2), (y1, y2)]) (mulI x1 y2)) (mulI y1 x2)) (addI (dS (ckB false [(x1, x2), (y1, y2)]) (mulI x1 y2)) (dS (dB (ckB false [(x1, x2), (y1, y2)]) (mulI x1 y2)) (mulI y1 x2)))) (dS (dB (dB (dB (ckB false [(x1, x2), (y1, y2)]) (mulI x1 y2)) (mulI y1 x2)) (addI (dS (ckB false [(x1, x2), (y1, y2)]) (mulI x1 y2)) (dS (dB (ckB false [(x1, x2), (y1, y2)]) (mulI x1 y2)) (mulI y1 x2)))) (mulI x2 y2))))]) (b := gd.heap.size) (o := 0) U36 rfl sz36 ?_ ?_;exact rfl;exact Blk.cells kf (i := 0) rfl;exact res_tmp (t := 7) (by exact rfl) _
theorem sum_sub (x1 x2 y1 y2 : List UInt8) (w : World) (ht : Tb w) :
    Calls Tryz.prog 23 #[.func (.func 34) #[] #[], .agg #[S (x1), S (x2)], .agg #[S (y1), S (y2)]] w (Ret w fun v w' => v = resR (subR (x1, x2) (y1, y2))) := by
 refine f_in Tryz.func23 rfl ?_;refine go ?_;refine bx (fun fh gv bb => ?_);have ht := Tb.ext gv.2 ht;have ac := gv.2;refine bx (fun gd gl en => ?_);have ht := Tb.ext gl.2 ht;have bb := be gl.2 bb;have ac := xt ac gl.2;refine al inf36 (fun fg gg e8 => ?_);have ht := Tb.ext gg.2 ht;have bb := be gg.2 bb;have en := be gg.2 en;have ac := xt ac gg.2;refine go ?_;refine bx (fun g8 f8 gh => ?_);have ht := Tb.ext f8.2 ht;have bb := be f8.2 bb;have en := be f8.2 en;have e8 := be f8.2 e8;have ac := xt ac f8.2;refine go ?_;refine BS2 (fun kg fj kh g9 => ?_);have ht := Tb.ext fj ht;have bb := be fj bb;have en := be fj en;have e8 := be fj e8;have gh := be fj gh;have ac := xt ac fj;have ki := bz fj;refine l_op (k_callA (vs := [.pointer (some ⟨fg.heap.size, 0, none⟩), .slice (some ⟨g8.heap.size, 0, none⟩) (2) (2)]) en223 rfl (check_ok (rs := [(x1, x2), (y1, y2)]) gh ht (Rw.of_own g9) rfl om (fun ad e => by cases e; simp; omega)) ?_);rintro kj gw ⟨fm, fe, rfl⟩;have ht := Tb.gr fm gh dc ht;have bb := Blk.gr fm (by simp; omega) bb;have en := Blk.gr fm (by simp; omega) en;have e8 := Blk.gr fm (by simp; omega) e8;have ac := low_gr ac fm (bz ac) (fun g hgg => by cases hgg; omega);have km := fm.size;refine go ?_;have fk := Ext.drew gw;refine c_anyC hmix 15 (fun _ _ => True) (fun _ => trivial) (fun _ _ _ _ _ => trivial) [fun v _ => v = .pointer (some ⟨fg.heap.size, 0, none⟩), fun v _ => v = .func (.func 34) #[] #[], fun v _ => v = .pointer (some ⟨fg.heap.size, 0, none⟩), fun v _ => v = .pointer (some ⟨w.heap.size, 0, none⟩), fun v _ => v = S (x1), fun v _ => v = .pointer (some ⟨fh.heap.size, 1, none⟩), fun v _ => v = S (y2), fun v _ => v = S (dS (ckB false [(x1, x2), (y1, y2)]) (mulI x1 y2)), fun v _ => v = .pointer (some ⟨fg.heap.size, 0, none⟩), fun v _ => v = .pointer (some ⟨fh.heap.size, 0, none⟩), fun v _ => v = S (y1), fun v _ => v = .pointer (some ⟨w.heap.size, 1, none⟩), fun v _ => v = S (x2), fun v _ => v = S (dS (dB (ckB false [(x1, x2), (y1, y2)]) (mulI x1 y2)) (mulI y1 x2)), fun v _ => v = S (dS (dB (dB (ckB false [(x1, x2), (y1, y2)]) (mulI x1 y2)) (mulI y1 x2)) (subI (dS (ckB false [(x1, x2), (y1, y2)]) (mulI x1 y2)) (dS (dB (ckB false [(x1, x2), (y1, y2)]) (mulI x1 y2)) (mulI y1 x2))))] ⟨fun _ _ _ _ h => h, fun _ _ _ _ h => h, fun _ _ _ _ h => h, fun _ _ _ _ h => h, fun _ _ _ _ h => h, fun _ _ _ _ h => h, fun _ _ _ _ h => h, fun _ _ _ _ h => h, fun _ _ _ _ h => h, fun _ _ _ _ h => h, fun _ _ _ _ h => h, fun _ _ _ _ h => h, fun _ _ _ _ h => h, fun _ _ _ _ h => h, fun _ _ _ _ h => h, trivial⟩ (by kernel_rfl) (by kernel_rfl) (by kernel_rfl) [7, 13, 14] (by kernel_rfl) (by kernel_rfl) (by kernel_rfl) (fun k W => (Ext w W) ∧ (gw.heap.size ≤ W.heap.size) ∧ (Tb W) ∧ (Blk W (w.heap.size) 25 #[S (x1), S (x2)]) ∧ (Blk W (fh.heap.size) 25 #[S (y1), S (y2)]) ∧ (Blk W (gd.heap.size) 25 #[S ([]), S ([])]) ∧ (Blk W (fg.heap.size) 86 #[.bool (([ckB false [(x1, x2), (y1, y2)], dB (ckB false [(x1, x2), (y1, y2)]) (mulI x1 y2), dB (dB (ckB false [(x1, x2), (y1, y2)]) (mulI x1 y2)) (mulI y1 x2), dB (dB (dB (ckB false [(x1, x2), (y1, y2)]) (mulI x1 y2)) (mulI y1 x2)) (subI (dS (ckB false [(x1, x2), (y1, y2)]) (mulI x1 y2)) (dS (dB (ckB false [(x1, x2), (y1, y2)]) (mulI x1 y2)) (mulI y1 x2)))] : List Bool).getD k false)])) ⟨(xt ac fk), (bz fk), (Tb.ext fk ht), (be fk bb), (be fk en), (be fk e8), (be fk fe)⟩ ?_ ?_
 refine ⟨fun kn ko kp ia kq _ ib kr => ?_, ?_⟩;obtain ⟨kn, rfl⟩ := ovE ib;obtain ⟨ac, zst, ht, bb, en, e8, fe⟩ := ia;have ks := bz ac;refine go ?_;exact ⟨rfl, _, (act_put _ _ _ _ _).symm, trivial, rfl, ⟨ac, om, ht, bb, en, e8, fe⟩⟩;refine ⟨fun kt ku kv ic kw _ ie ky => ?_, ?_⟩;obtain ⟨kt, rfl⟩ := ovE ie;obtain ⟨ac, zst, ht, bb, en, e8, fe⟩ := ic;have kz := bz ac;refine go ?_;exact ⟨rfl, _, (act_put _ _ _ _ _).symm, trivial, rfl, ⟨ac, om, ht, bb, en, e8, fe⟩⟩;refine ⟨fun k4 k5 lc ig ld _ ii lf => ?_, ?_⟩;obtain ⟨k4, rfl⟩ := ovE ii;obtain ⟨ac, zst, ht, bb, en, e8, fe⟩ := ig;have lg := bz ac;refine go ?_;exact ⟨rfl, _, (act_put _ _ _ _ _).symm, trivial, rfl, ⟨ac, om, ht, bb, en, e8, fe⟩⟩;refine ⟨fun lh li lj ij lk _ ik ll => ?_, ?_⟩;obtain ⟨lh, rfl⟩ := ovE ik;obtain ⟨ac, zst, ht, bb, en, e8, fe⟩ := ij;have ln := bz ac;refine go ?_;exact ⟨rfl, _, (act_put _ _ _ _ _).symm, trivial, rfl, ⟨ac, om, ht, bb, en, e8, fe⟩⟩;refine ⟨fun il lu lv im lw _ lx io => ?_, ?_⟩;obtain ⟨il, rfl⟩ := ovE lx;obtain ⟨ac, zst, ht, bb, en, e8, fe⟩ := im;have lz := bz ac;have ip := zpv (io 3 20 rfl rfl);refine go ?_;exact ⟨rfl, _, (act_put _ _ _ _ _).symm, trivial, rfl, ⟨ac, om, ht, bb, en, e8, fe⟩⟩;refine ⟨fun l0 l5 l6 iq l7 _ ir l8 => ?_, ?_⟩;obtain ⟨l0, rfl⟩ := ovE ir;obtain ⟨ac, zst, ht, bb, en, e8, fe⟩ := iq;have l9 := bz ac;refine go ?_;exact ⟨rfl, _, (act_put _ _ _ _ _).symm, trivial, rfl, ⟨ac, om, ht, bb, en, e8, fe⟩⟩
 refine ⟨fun iu ma mb iv mc _ me iw => ?_, ?_⟩;obtain ⟨iu, rfl⟩ := ovE me;obtain ⟨ac, zst, ht, bb, en, e8, fe⟩ := iv;have mf := bz ac;have ix := zpv (iw 5 22 rfl rfl);refine go ?_;exact ⟨rfl, _, (act_put _ _ _ _ _).symm, trivial, rfl, ⟨ac, om, ht, bb, en, e8, fe⟩⟩;refine ⟨fun gm iy mg iz i6 _ mh gp => ?_, ?_⟩;obtain ⟨gm, rfl⟩ := ovE mh;obtain ⟨ac, zst, ht, bb, en, e8, fe⟩ := iz;obtain rfl := i6 0 rfl;have fe : Blk iy (fg.heap.size) 86 #[.bool (ckB false [(x1, x2), (y1, y2)])] := fe;have mi := bz ac;have i7 := zpv (gp 2 19 rfl rfl);have i8 := zpv (gp 4 21 rfl rfl);have ja := zpv (gp 6 23 rfl rfl);refine l_op (k_callA (vs := [.pointer (some ⟨fg.heap.size, 0, none⟩), S (x1), S (y2)]) en224 (cons_eq i7 (cons_eq i8 (cons_eq ja rfl))) (mul_ok fe ht x1 y2) ?_);rintro mj ml ⟨fo, jb, rfl⟩;have ht := Tb.gr fo fe dc ht;have bb := Blk.gr fo (by simp; omega) bb;have en := Blk.gr fo (by simp; omega) en;have e8 := Blk.gr fo (by simp; omega) e8;have ac := low_gr ac fo (bz ac) (fun g hgg => by cases hgg; omega);have mm := fo.size;refine go ?_;exact ⟨rfl, _, (act_put _ _ _ _ _).symm, trivial, rfl, ⟨ac, om, ht, bb, en, e8, jb⟩⟩;refine ⟨fun mo mp mu jc mv _ jd mw => ?_, ?_⟩;obtain ⟨mo, rfl⟩ := ovE jd;obtain ⟨ac, zst, ht, bb, en, e8, fe⟩ := jc;have mx := bz ac;refine go ?_;exact ⟨rfl, _, (act_put _ _ _ _ _).symm, trivial, rfl, ⟨ac, om, ht, bb, en, e8, fe⟩⟩;refine ⟨fun my mz m0 je m5 _ jf m6 => ?_, ?_⟩;obtain ⟨my, rfl⟩ := ovE jf;obtain ⟨ac, zst, ht, bb, en, e8, fe⟩ := je
 have m7 := bz ac;refine go ?_;exact ⟨rfl, _, (act_put _ _ _ _ _).symm, trivial, rfl, ⟨ac, om, ht, bb, en, e8, fe⟩⟩;refine ⟨fun jg m8 m9 jh na _ nc ji => ?_, ?_⟩;obtain ⟨jg, rfl⟩ := ovE nc;obtain ⟨ac, zst, ht, bb, en, e8, fe⟩ := jh;have nd := bz ac;have jj := zpv (ji 9 26 rfl rfl);refine go ?_;exact ⟨rfl, _, (act_put _ _ _ _ _).symm, trivial, rfl, ⟨ac, om, ht, bb, en, e8, fe⟩⟩;refine ⟨fun nf nh ni jk nj _ jl nk => ?_, ?_⟩;obtain ⟨nf, rfl⟩ := ovE jl;obtain ⟨ac, zst, ht, bb, en, e8, fe⟩ := jk;have nl := bz ac;refine go ?_;exact ⟨rfl, _, (act_put _ _ _ _ _).symm, trivial, rfl, ⟨ac, om, ht, bb, en, e8, fe⟩⟩;refine ⟨fun jm nn nu jn nw _ nz jo => ?_, ?_⟩;obtain ⟨jm, rfl⟩ := ovE nz;obtain ⟨ac, zst, ht, bb, en, e8, fe⟩ := jn;have n3 := bz ac;have jp := zpv (jo 11 28 rfl rfl);refine go ?_;exact ⟨rfl, _, (act_put _ _ _ _ _).symm, trivial, rfl, ⟨ac, om, ht, bb, en, e8, fe⟩⟩;refine ⟨fun gq jq n4 jr js _ n6 gu => ?_, ?_⟩;obtain ⟨gq, rfl⟩ := ovE n6;obtain ⟨ac, zst, ht, bb, en, e8, fe⟩ := jr;obtain rfl := js 1 rfl;have fe : Blk jq (fg.heap.size) 86 #[.bool (dB (ckB false [(x1, x2), (y1, y2)]) (mulI x1 y2))] := fe;have n7 := bz ac;have jt := zpv (gu 8 25 rfl rfl);have ju := zpv (gu 10 27 rfl rfl);have jv := zpv (gu 12 29 rfl rfl);refine l_op (k_callA (vs := [.pointer (some ⟨fg.heap.size, 0, none⟩), S (y1), S (x2)]) en224 (cons_eq jt (cons_eq ju (cons_eq jv rfl))) (mul_ok fe ht y1 x2) ?_);rintro n8 n9 ⟨fp, jw, rfl⟩;have ht := Tb.gr fp fe dc ht
 have bb := Blk.gr fp (by simp; omega) bb;have en := Blk.gr fp (by simp; omega) en;have e8 := Blk.gr fp (by simp; omega) e8;have ac := low_gr ac fp (bz ac) (fun g hgg => by cases hgg; omega);have oa := fp.size;refine go ?_;exact ⟨rfl, _, (act_put _ _ _ _ _).symm, trivial, rfl, ⟨ac, om, ht, bb, en, e8, jw⟩⟩;refine ⟨fun gi jx oc jy jz _ oe gj => ?_, ?_⟩;obtain ⟨gi, rfl⟩ := ovE oe;obtain ⟨ac, zst, ht, bb, en, e8, fe⟩ := jy;obtain rfl := jz 2 rfl;have fe : Blk jx (fg.heap.size) 86 #[.bool (dB (dB (ckB false [(x1, x2), (y1, y2)]) (mulI x1 y2)) (mulI y1 x2))] := fe;have og := bz ac;have j2 := zpv (gj 0 17 rfl rfl);have j3 := zpv (gj 1 18 rfl rfl);have j4 := zpv (gj 7 24 rfl rfl);have j5 := zpv (gj 13 30 rfl rfl);refine l_op (k_callA (vs := [.pointer (some ⟨fg.heap.size, 0, none⟩), .func (.func 34) #[] #[], S (dS (ckB false [(x1, x2), (y1, y2)]) (mulI x1 y2)), S (dS (dB (ckB false [(x1, x2), (y1, y2)]) (mulI x1 y2)) (mulI y1 x2))]) en227 (cons_eq j2 (cons_eq j3 (cons_eq j4 (cons_eq j5 rfl)))) (do_ok (o := subI (dS (ckB false [(x1, x2), (y1, y2)]) (mulI x1 y2)) (dS (dB (ckB false [(x1, x2), (y1, y2)]) (mulI x1 y2)) (mulI y1 x2))) fe ht en226 (fun W hW => iSub_ok _ _ W hW)) ?_);rintro oh oi ⟨fq, j6, rfl⟩;have ht := Tb.gr fq fe dc ht;have bb := Blk.gr fq (by simp; omega) bb;have en := Blk.gr fq (by simp; omega) en;have e8 := Blk.gr fq (by simp; omega) e8;have ac := low_gr ac fq (bz ac) (fun g hgg => by cases hgg; omega);have ol := fq.size;refine go ?_
 exact ⟨rfl, _, (act_put _ _ _ _ _).symm, trivial, rfl, ⟨ac, om, ht, bb, en, e8, j6⟩⟩;exact trivial;intro gc j7 j8 _ gk j9;obtain ⟨gc, rfl⟩ := ovE gk;obtain ⟨ac, zst, ht, bb, en, e8, fe⟩ := j8;have fe : Blk j7 (fg.heap.size) 86 #[.bool (dB (dB (dB (ckB false [(x1, x2), (y1, y2)]) (mulI x1 y2)) (mulI y1 x2)) (subI (dS (ckB false [(x1, x2), (y1, y2)]) (mulI x1 y2)) (dS (dB (ckB false [(x1, x2), (y1, y2)]) (mulI x1 y2)) (mulI y1 x2))))] := fe;have ot := bz ac;have ka := zpv (j9 14 31 rfl rfl);refine go ?_;refine l_op (k_callA (vs := [.pointer (some ⟨fg.heap.size, 0, none⟩), S (x2), S (y2)]) en224 rfl (mul_ok fe ht x2 y2) ?_);rintro ou ow ⟨fw, gz, rfl⟩;have ht := Tb.gr fw fe dc ht;have bb := Blk.gr fw (by simp; omega) bb;have en := Blk.gr fw (by simp; omega) en;have e8 := Blk.gr fw (by simp; omega) e8;have ac := low_gr ac fw (bz ac) (fun g hgg => by cases hgg; omega);have ox := fw.size;refine l_op (k_callA (vs := [.pointer (some ⟨fg.heap.size, 0, none⟩), S (dS (dB (dB (ckB false [(x1, x2), (y1, y2)]) (mulI x1 y2)) (mulI y1 x2)) (subI (dS (ckB false [(x1, x2), (y1, y2)]) (mulI x1 y2)) (dS (dB (ckB false [(x1, x2), (y1, y2)]) (mulI x1 y2)) (mulI y1 x2)))), S (dS (dB (dB (dB (ckB false [(x1, x2), (y1, y2)]) (mulI x1 y2)) (mulI y1 x2)) (subI (dS (ckB false [(x1, x2), (y1, y2)]) (mulI x1 y2)) (dS (dB (ckB false [(x1, x2), (y1, y2)]) (mulI x1 y2)) (mulI y1 x2)))) (mulI x2 y2))]) en225 rfl (red_ok gz ht (dS (dB (dB (ckB false [(x1, x2), (y1, y2)]) (mulI x1 y2)) (mulI y1 x2)) (subI (dS (ckB false [(x1, x2), (y1, y2)]) (mulI x1 y2)) (dS (dB (ckB false [(x1, x2), (y1, y2)]) (mulI x1 y2)) (mulI y1 x2)))) (dS (dB (dB (dB (ckB false [(x1, x2), (y1, y2)]) (mulI x1 y2)) (mulI y1 x2)) (subI (dS (ckB false [(x1, x2), (y1, y2)]) (mulI x1 y2)) (dS (dB (ckB false [(x1, x2), (y1, y2)]) (mulI x1 y2)) (mulI y1 x2)))) (mulI x2 y2))) ?_)
 rintro oy oz ⟨f6, ⟨o0, g6⟩, rfl⟩;have bb := Blk.gr f6 (by simp; omega) bb;have en := Blk.gr f6 (by simp; omega) en;have e8 := Blk.gr f6 (by simp; omega) e8;have ac := low_gr ac f6 (bz ac) (fun g hgg => by cases hgg; omega);have o5 := f6.size;refine go ?_;refine SA e8 (fun o6 f7 kf => ?_);have bb := pb f7 bb;have en := pb f7 en;have g6 := pb f7 g6;have ac := plw f7 ac;have o7 := psz f7;refine go ?_;refine f_out (v := .tuple #[.agg #[S (rN (redW (dB (dB (dB (dB (ckB false [(x1, x2), (y1, y2)]) (mulI x1 y2)) (mulI y1 x2)) (subI (dS (ckB false [(x1, x2), (y1, y2)]) (mulI x1 y2)) (dS (dB (ckB false [(x1, x2), (y1, y2)]) (mulI x1 y2)) (mulI y1 x2)))) (mulI x2 y2)) (dS (dB (dB (ckB false [(x1, x2), (y1, y2)]) (mulI x1 y2)) (mulI y1 x2)) (subI (dS (ckB false [(x1, x2), (y1, y2)]) (mulI x1 y2)) (dS (dB (ckB false [(x1, x2), (y1, y2)]) (mulI x1 y2)) (mulI y1 x2)))) (dS (dB (dB (dB (ckB false [(x1, x2), (y1, y2)]) (mulI x1 y2)) (mulI y1 x2)) (subI (dS (ckB false [(x1, x2), (y1, y2)]) (mulI x1 y2)) (dS (dB (ckB false [(x1, x2), (y1, y2)]) (mulI x1 y2)) (mulI y1 x2)))) (mulI x2 y2)))), S (rD (redW (dB (dB (dB (dB (ckB false [(x1, x2), (y1, y2)]) (mulI x1 y2)) (mulI y1 x2)) (subI (dS (ckB false [(x1, x2), (y1, y2)]) (mulI x1 y2)) (dS (dB (ckB false [(x1, x2), (y1, y2)]) (mulI x1 y2)) (mulI y1 x2)))) (mulI x2 y2)) (dS (dB (dB (ckB false [(x1, x2), (y1, y2)]) (mulI x1 y2)) (mulI y1 x2)) (subI (dS (ckB false [(x1, x2), (y1, y2)]) (mulI x1 y2)) (dS (dB (ckB false [(x1, x2), (y1, y2)]) (mulI x1 y2)) (mulI y1 x2)))) (dS (dB (dB (dB (ckB false [(x1, x2), (y1, y2)]) (mulI x1 y2)) (mulI y1 x2)) (subI (dS (ckB false [(x1, x2), (y1, y2)]) (mulI x1 y2)) (dS (dB (ckB false [(x1, x2), (y1, y2)]) (mulI x1 y2)) (mulI y1 x2)))) (mulI x2 y2))))], .int .i64 (rER (redW (dB (dB (dB (dB (ckB false [(x1, x2), (y1, y2)]) (mulI x1 y2)) (mulI y1 x2)) (subI (dS (ckB false [(x1, x2), (y1, y2)]) (mulI x1 y2)) (dS (dB (ckB false [(x1, x2), (y1, y2)]) (mulI x1 y2)) (mulI y1 x2)))) (mulI x2 y2)) (dS (dB (dB (ckB false [(x1, x2), (y1, y2)]) (mulI x1 y2)) (mulI y1 x2)) (subI (dS (ckB false [(x1, x2), (y1, y2)]) (mulI x1 y2)) (dS (dB (ckB false [(x1, x2), (y1, y2)]) (mulI x1 y2)) (mulI y1 x2)))) (dS (dB (dB (dB (ckB false [(x1, x2), (y1, y2)]) (mulI x1 y2)) (mulI y1 x2)) (subI (dS (ckB false [(x1, x2), (y1, y2)]) (mulI x1 y2)) (dS (dB (ckB false [(x1, x2), (y1, y2)]) (mulI x1 y2)) (mulI y1 x2)))) (mulI x2 y2))))]) (res2 (r1 := .cell 6 25) (r2 := .tmp 7) rfl ?_ ?_) ac (sub_spec x1 x2 y1 y2)
 refine res_cellA (t := 6) (cs := [S (rN (redW (dB (dB (dB (dB (ckB false [(x1, x2), (y1, y2)]) (mulI x1 y2)) (mulI y1 x2)) (subI (dS (ckB false [(x1, x2), (y1, y2)]) (mulI x1 y2)) (dS (dB (ckB false [(x1, x2), (y1, y2)]) (mulI x1 y2)) (mulI y1 x2)))) (mulI x2 y2)) (dS (dB (dB (ckB false [(x1, x2), (y1, y2)]) (mulI x1 y2)) (mulI y1 x2)) (subI (dS (ckB false [(x1, x2), (y1, y2)]) (mulI x1 y2)) (dS (dB (ckB false [(x1, x2), (y1, y2)]) (mulI x1 y2)) (mulI y1 x2)))) (dS (dB (dB (dB (ckB false [(x1, x2), (y1, y2)]) (mulI x1 y2)) (mulI y1 x2)) (subI (dS (ckB false [(x1, x2), (y1, y2)]) (mulI x1 y2)) (dS (dB (ckB false [(x1, x2), (y1, y2)]) (mulI x1 y2)) (mulI y1 x2)))) (mulI x2 y2)))), S (rD (redW (dB (dB (dB (dB (ckB false [(x1, x2), (y1, y2)]) (mulI x1 y2)) (mulI y1 x2)) (subI (dS (ckB false [(x1, x2), (y1, y2)]) (mulI x1 y2)) (dS (dB (ckB false [(x1, x2), (y1, y2)]) (mulI x1 y2)) (mulI y1 x2)))) (mulI x2 y2)) (dS (dB (dB (ckB false [(x1, x2), (y1, y2)]) (mulI x1 y2)) (mulI y1 x2)) (subI (dS (ckB false [(x1, x2), (y1, y2)]) (mulI x1 y2)) (dS (dB (ckB false [(x1, x2), (y1, y2)]) (mulI x1 y2)) (mulI y1 x2)))) (dS (dB (dB (dB (ckB false [(x1, x2), (y1, y2)]) (mulI x1 y2)) (mulI y1 x2)) (subI (dS (ckB false [(x1, x2), (y1, y2)]) (mulI x1 y2)) (dS (dB (ckB false [(x1, x2), (y1, y2)]) (mulI x1 y2)) (mulI y1 x2)))) (mulI x2 y2))))]) (b := gd.heap.size) (o := 0) U36 rfl sz36 ?_ ?_;exact rfl;exact Blk.cells kf (i := 0) rfl;exact res_tmp (t := 7) (by exact rfl) _
theorem rAdd_ok (x1 x2 y1 y2 : List UInt8) (w : World) (ht : Tb w) :
    Calls Tryz.prog 8 #[.agg #[S (x1), S (x2)], .agg #[S (y1), S (y2)]] w (Ret w fun v w' => v = resR (addR (x1, x2) (y1, y2))) := by
 refine f_in Tryz.func8 rfl ?_;refine go ?_;refine bx (fun fo fk ac => ?_);have ht := Tb.ext fk.2 ht;have bb := fk.2;refine bx (fun fm fj en => ?_);have ht := Tb.ext fj.2 ht;have ac := be fj.2 ac;have bb := xt bb fj.2;refine al inf36 (fun fq fg fh => ?_);have ht := Tb.ext fg.2 ht;have ac := be fg.2 ac;have en := be fg.2 en;have bb := xt bb fg.2;refine go ?_;refine cl en221 (sum_add x1 x2 y1 y2 _ ht) ?_;rintro fw f6 e8 rfl;have ac := be e8.2 ac;have en := be e8.2 en;have fh := be e8.2 fh;have bb := xt bb e8.2;refine go ?_;refine SA fh (fun f7 fe fp => ?_);have ac := pb fe ac;have en := pb fe en;have bb := plw fe bb;have f8 := psz fe;refine go ?_;refine f_out (v := .tuple #[.agg #[S (rN (addR (x1, x2) (y1, y2))), S (rD (addR (x1, x2) (y1, y2)))], .int .i64 (rER (addR (x1, x2) (y1, y2)))]) (res2 (r1 := .cell 4 25) (r2 := .tmp 5) rfl ?_ ?_) bb rfl;refine res_cellA (t := 4) (cs := [S (rN (addR (x1, x2) (y1, y2))), S (rD (addR (x1, x2) (y1, y2)))]) (b := fm.heap.size) (o := 0) U36 rfl sz36 ?_ ?_;exact rfl;exact Blk.cells fp (i := 0) rfl;exact res_tmp (t := 5) (by exact rfl) _
theorem rSub_ok (x1 x2 y1 y2 : List UInt8) (w : World) (ht : Tb w) :
    Calls Tryz.prog 12 #[.agg #[S (x1), S (x2)], .agg #[S (y1), S (y2)]] w (Ret w fun v w' => v = resR (subR (x1, x2) (y1, y2))) := by
 refine f_in Tryz.func12 rfl ?_;refine go ?_;refine bx (fun fo fk ac => ?_);have ht := Tb.ext fk.2 ht;have bb := fk.2;refine bx (fun fm fj en => ?_);have ht := Tb.ext fj.2 ht;have ac := be fj.2 ac;have bb := xt bb fj.2;refine al inf36 (fun fq fg fh => ?_);have ht := Tb.ext fg.2 ht;have ac := be fg.2 ac;have en := be fg.2 en;have bb := xt bb fg.2;refine go ?_;refine cl en221 (sum_sub x1 x2 y1 y2 _ ht) ?_;rintro fw f6 e8 rfl;have ac := be e8.2 ac;have en := be e8.2 en;have fh := be e8.2 fh;have bb := xt bb e8.2;refine go ?_;refine SA fh (fun f7 fe fp => ?_);have ac := pb fe ac;have en := pb fe en;have bb := plw fe bb;have f8 := psz fe;refine go ?_;refine f_out (v := .tuple #[.agg #[S (rN (subR (x1, x2) (y1, y2))), S (rD (subR (x1, x2) (y1, y2)))], .int .i64 (rER (subR (x1, x2) (y1, y2)))]) (res2 (r1 := .cell 4 25) (r2 := .tmp 5) rfl ?_ ?_) bb rfl;refine res_cellA (t := 4) (cs := [S (rN (subR (x1, x2) (y1, y2))), S (rD (subR (x1, x2) (y1, y2)))]) (b := fm.heap.size) (o := 0) U36 rfl sz36 ?_ ?_;exact rfl;exact Blk.cells fp (i := 0) rfl;exact res_tmp (t := 5) (by exact rfl) _
end Go.Proofs.YteojhdahhaodoaaGreatDoor
namespace Go.Proofs.YteojhdahhaodoaaGreatDoor
open Go Go.Eng Go.RowKit
theorem okR_zero : okR ([48], [49]) = true := by decide +kernel
theorem okR_pos {a : R} (h : okR a = true) : 0 < valZ a.2 := by
  have h2 := okR_2 h
  simp only [okR, Bool.and_eq_true, Bool.not_eq_true', decide_eq_false_iff_not] at h
  have := h.1.2
  rw [cmpS_zero h2, cmpI_nonpos] at this
  omega
theorem divI_zero : divI [48] [49] = some ([48], [48]) := by decide +kernel
theorem body_pos {l : List UInt8} (h : 0 < valZ l) : 0 < valN (body l) := by have := valZ_natAbs l; omega
theorem div_R {a : R} (h : okR a = true) : divI a.1 a.2 = some (showI (valZ a.1 / valZ a.2), showI (valZ a.1 % valZ a.2)) := by
  have hp := okR_pos h
  rw [divI_ok (by rw [okR_1 h, okR_2 h]; rfl) (body_pos hp)]
  have hf : fits (valZ a.1 / valZ a.2) = true := by
    refine fits_le (fits_val (okR_1 h)) ?_
    obtain ⟨d, hd⟩ : ∃ d : Nat, valZ a.2 = (d : Int) := ⟨(valZ a.2).toNat, by omega⟩
    rw [hd] at hp ⊢
    rcases Int.le_total 0 (valZ a.1) with h0 | h0
    · have h1 := Int.ediv_nonneg h0 (Int.le_of_lt hp)
      have h2 := Int.ediv_le_self (b := (d : Int)) h0
      omega
    · have h1 : valZ a.1 / (d : Int) ≤ 0 := Int.ediv_nonpos_of_nonpos_of_neg h0 hp
      have h2 : valZ a.1 ≤ valZ a.1 / (d : Int) := by
        refine Int.le_ediv_of_mul_le hp ?_
        have h7 : 0 ≤ (-valZ a.1) * ((d : Int) - 1) := Int.mul_nonneg (by omega) (by omega)
        rw [Int.neg_mul, Int.mul_sub, Int.mul_one] at h7
        omega
      omega
  unfold outI; rw [if_pos hf]; rfl
def sgnI (x : Int) : Int := cmpI x 0
theorem fits_mod {a : R} (h : okR a = true) : fits (valZ a.1 % valZ a.2) = true := by
  have hp := okR_pos h
  refine fits_le (fits_val (okR_2 h)) ?_
  have h1 := Int.emod_nonneg (valZ a.1) (show valZ a.2 ≠ 0 by omega)
  have h2 := Int.emod_lt_of_pos (valZ a.1) hp
  omega
theorem whole_cmp {a : R} (h : okR a = true) : cmpS (showI (valZ a.1 / valZ a.2)) [48] = cmpI (valZ a.1 / valZ a.2) 0 := by
  have hd := div_R h
  have hf : fits (valZ a.1 / valZ a.2) = true := by
    rw [divI_ok (by rw [okR_1 h, okR_2 h]; rfl) (body_pos (okR_pos h))] at hd
    cases hh : fits (valZ a.1 / valZ a.2) with
    | true => rfl
    | false => unfold outI at hd; rw [hh] at hd; simp at hd
  rw [cmpS_zero (isInt_showI hf), valZ_showI]
theorem rem_zero {a : R} (h : okR a = true) : (showI (valZ a.1 % valZ a.2) = [48]) ↔ valZ a.1 % valZ a.2 = 0 := by
  rw [← valZ_eq_zero (isInt_showI (fits_mod h)), valZ_showI]
theorem cmp_c1 {a : R} (h : okR a = true) (h1 : ¬ cmpS (showI (valZ a.1 / valZ a.2)) [48] = 0) : cmpS (showI (valZ a.1 / valZ a.2)) [48] = sgnI (valZ a.1) := by
  rw [whole_cmp h] at *
  have hp := okR_pos h
  unfold sgnI
  refine cmpI_congr ?_ ?_
  · constructor
    · intro hh
      by_cases h9 : valZ a.1 < 0
      · exact h9
      · have := Int.ediv_nonneg (Int.not_lt.1 h9) (Int.le_of_lt hp); omega
    · intro hh; exact Int.ediv_neg_of_neg_of_pos hh hp
  · constructor
    · intro hh; rw [hh] at h1; exact absurd (cmpI_eq rfl) h1
    · intro hh; rw [hh]; simp
theorem cmp_q0 {a : R} (h : okR a = true) (h1 : cmpS (showI (valZ a.1 / valZ a.2)) [48] = 0) : 0 ≤ valZ a.1 ∧ valZ a.1 % valZ a.2 = valZ a.1 := by
  rw [whole_cmp h] at h1
  have hp := okR_pos h
  have hq : valZ a.1 / valZ a.2 = 0 := by
    unfold cmpI at h1
    split at h1
    · omega
    · split at h1
      · assumption
      · omega
  have h2 := Int.emod_add_mul_ediv (valZ a.1) (valZ a.2)
  rw [hq] at h2
  have h3 := Int.emod_nonneg (valZ a.1) (show valZ a.2 ≠ 0 by omega)
  simp at h2
  exact ⟨by omega, h2⟩
theorem cmp_c2 {a : R} (h : okR a = true) (h1 : cmpS (showI (valZ a.1 / valZ a.2)) [48] = 0) (h2 : showI (valZ a.1 % valZ a.2) = [48]) : (0 : Int) = sgnI (valZ a.1) := by
  obtain ⟨_, h4⟩ := cmp_q0 h h1
  rw [rem_zero h, h4] at h2
  unfold sgnI; rw [cmpI_eq h2]
theorem cmp_c3 {a : R} (h : okR a = true) (h1 : cmpS (showI (valZ a.1 / valZ a.2)) [48] = 0) (h2 : ¬ showI (valZ a.1 % valZ a.2) = [48]) : (1 : Int) = sgnI (valZ a.1) := by
  obtain ⟨h3, h4⟩ := cmp_q0 h h1
  rw [rem_zero h, h4] at h2
  unfold sgnI; rw [cmpI_gt (by omega)]
theorem cmpS_bd (a b : List UInt8) : -1 ≤ cmpS a b ∧ cmpS a b ≤ 1 := by
  unfold cmpS cmpI
  split
  · split
    · omega
    · split <;> omega
  · omega
end Go.Proofs.YteojhdahhaodoaaGreatDoor
namespace Go.Proofs.YteojhdahhaodoaaGreatDoor
set_option maxRecDepth 100000
open Go Go.Eng Go.RowKit
attribute [local irreducible] wpListIn Code.wpIn Oper.wpIn Exit.then Exit.inBlock Exit.noGoto
set_option maxHeartbeats 40000000
section
variable {f : FuncId} {a : Array Value} {w : World}
theorem cEq {X Y : Value} (h : Calls Tryz.prog f a w (Ret w fun v _ => v = X)) (e : X = Y) : Calls Tryz.prog f a w (Ret w fun v _ => v = Y) := e ▸ h
theorem cB {X Y : Bool} (h : Calls Tryz.prog f a w (Ret w fun v _ => v = .bool X)) (e : X = Y) : Calls Tryz.prog f a w (Ret w fun v _ => v = .bool Y) := e ▸ h
end
theorem up_0 {a b : Nat} (h : nS (a % b) = [48]) : S (nS (a / b)) = S (nS (upn a b)) := by
  have := showI_zero.1 h
  unfold upn; rw [if_pos om]
theorem up_1 {a b : Nat} (h : ¬ nS (a % b) = [48]) : S (nS (a / b + 1)) = S (nS (upn a b)) := by
  unfold upn; rw [if_neg fun e => h (by rw [e]; rfl)]
theorem div_fi {a b : Nat} (h : Fi a) : Fi (a / b) := Nat.lt_of_le_of_lt (Nat.div_le_self _ _) h
theorem upn_fi {a b : Nat} (h : Fi a) (hb : 0 < b) : Fi (upn a b) := Nat.lt_of_le_of_lt (upn_le hb) h
theorem up_fi {a b : Nat} (h : Fi a) (hb : 0 < b) (h0 : ¬ nS (a % b) = [48]) : Fi (a / b + 1) := by
  have h1 := upn_fi h hb
  unfold upn at h1
  rwa [if_neg fun e => h0 (by rw [e]; rfl)] at h1
theorem fi1 : Fi 1 := by unfold Fi; decide
theorem fi_add {a b : Nat} (h : Fi (a + b)) : Fi a ∧ Fi b := by unfold Fi at *; omega
theorem divI_N {a b : Nat} (ha : Fi a) (hb : Fi b) (h0 : 0 < b) : divI (nS a) (nS b) = some (nS (a / b), nS (a % b)) := divI_Z ha.z hb.z om (div_fi ha).z
theorem zAdd_ok {l m : List UInt8} {a b : Int} {w : World} (hl : l = showI a) (hm : m = showI b) (ha : Fz a) (hb : Fz b) (h : Fz (a + b)) (ht : Tb w) :
    Calls Tryz.prog 45 #[S (l), S (m)] w (Ret w fun v w' => v = S (showI (a + b))) := by
 subst hl hm;refine f_in Tryz.func45 rfl ?_;refine go ?_;refine cl en222 (cEq (Y := .tuple #[S (showI (a + b)), .int .i64 (0)]) (iAdd_ok _ _ _ (ht.ext (Ext.refl _))) (congrArg resI (addI_Z ha hb h))) ?_;rintro en e8 ac rfl;have bb := ac.2;refine go ?_;exact f_ret1 (t := 4) (v := S (showI (a + b))) rfl bb rfl rfl
theorem zSub_ok {l m : List UInt8} {a b : Int} {w : World} (hl : l = showI a) (hm : m = showI b) (ha : Fz a) (hb : Fz b) (h : Fz (a - b)) (ht : Tb w) :
    Calls Tryz.prog 38 #[S (l), S (m)] w (Ret w fun v w' => v = S (showI (a - b))) := by
 subst hl hm;refine f_in Tryz.func38 rfl ?_;refine go ?_;refine cl en226 (cEq (Y := .tuple #[S (showI (a - b)), .int .i64 (0)]) (iSub_ok _ _ _ (ht.ext (Ext.refl _))) (congrArg resI (subI_Z ha hb h))) ?_;rintro en e8 ac rfl;have bb := ac.2;refine go ?_;exact f_ret1 (t := 4) (v := S (showI (a - b))) rfl bb rfl rfl
theorem zMul_ok {l m : List UInt8} {a b : Int} {w : World} (hl : l = showI a) (hm : m = showI b) (ha : Fz a) (hb : Fz b) (h : Fz (a * b)) (ht : Tb w) :
    Calls Tryz.prog 43 #[S (l), S (m)] w (Ret w fun v w' => v = S (showI (a * b))) := by
 subst hl hm;refine f_in Tryz.func43 rfl ?_;refine go ?_;refine cl en229 (cEq (Y := .tuple #[S (showI (a * b)), .int .i64 (0)]) (iMul_ok _ _ _ (ht.ext (Ext.refl _))) (congrArg resI (mulI_Z ha hb h))) ?_;rintro en e8 ac rfl;have bb := ac.2;refine go ?_;exact f_ret1 (t := 4) (v := S (showI (a * b))) rfl bb rfl rfl
theorem zDown_ok {l m : List UInt8} {a b : Int} {w : World} (hl : l = showI a) (hm : m = showI b) (ha : Fz a) (hb : Fz b) (hp : 0 < b) (ht : Tb w) :
    Calls Tryz.prog 44 #[S (l), S (m)] w (Ret w fun v w' => v = S (showI (a / b))) := by
 subst hl hm;have h0 : b ≠ 0 := om;refine f_in Tryz.func44 rfl ?_;refine go ?_;refine clb en83 (hc := cEq (Y := .tuple #[S (showI (a / b)), S (showI (a % b)), .int .i64 (0)]) (iDiv_ok _ _ _ (ht.ext (Ext.refl _))) (congrArg resD (divI_Z ha hb h0 (fz_div ha om)))) (hk := ?_);rintro en e8 ac rfl;have bb := ac.2;refine go ?_;exact f_ret1 (t := 4) (v := S (showI (a / b))) rfl bb rfl rfl
theorem nAdd_ok {l m : List UInt8} {a b : Nat} {w : World} (hl : l = nS a) (hm : m = nS b) (h : Fi (a + b)) (ht : Tb w) : Calls Tryz.prog 45 #[S l, S m] w (Ret w fun v _ => v = S (nS (a + b))) := zAdd_ok hl hm (fi_add h).1.z (fi_add h).2.z h.z ht
theorem nMul_ok {l m : List UInt8} {a b : Nat} {w : World} (hl : l = nS a) (hm : m = nS b) (ha : Fi a) (hb : Fi b) (h : Fi (a * b)) (ht : Tb w) : Calls Tryz.prog 43 #[S l, S m] w (Ret w fun v _ => v = S (nS (a * b))) := zMul_ok hl hm ha.z hb.z h.z ht
theorem nDown_ok {l m : List UInt8} {a b : Nat} {w : World} (hl : l = nS a) (hm : m = nS b) (ha : Fi a) (hb : Fi b) (hp : 0 < b) (ht : Tb w) : Calls Tryz.prog 44 #[S l, S m] w (Ret w fun v _ => v = S (nS (a / b))) := zDown_ok hl hm ha.z hb.z om ht
theorem nUp_ok {l m : List UInt8} {a b : Nat} {w : World} (hl : l = nS a) (hm : m = nS b) (ha : Fi a) (hb : Fi b) (hp : 0 < b) (ht : Tb w) :
    Calls Tryz.prog 69 #[S (l), S (m)] w (Ret w fun v w' => v = S (nS (upn a b))) := by
 subst hl hm;refine f_in Tryz.func69 rfl ?_;refine go ?_;refine cl en83 (cEq (Y := .tuple #[S (nS (a / b)), S (nS (a % b)), .int .i64 (0)]) (iDiv_ok _ _ _ (ht.ext (Ext.refl _))) (congrArg resD (divI_N ha hb hp))) ?_;rintro fe fg en rfl;have ac := en.2;refine go ?_;refine eqs (b := [48]) ?_;refine go ?_;by_cases bb : (nS (a % b)) = ([48]);refine go ?_;exact f_ret1 (t := 4) (v := S (nS (a / b))) rfl ac (up_0 bb) rfl;refine go ?_;refine cl en1045 (nAdd_ok rfl lit1 (up_fi ha hp bb) (ht.ext ac)) ?_;rintro fh fj e8 rfl;have ac := xt ac e8.2;refine go ?_;exact f_ret1 (t := 4) (v := S (nS (a / b + 1))) rfl ac (up_1 bb) rfl
theorem fromN_ok {n : Nat} {w : World} (hn : n < 1000000000) (ht : Tb w) :
    Calls Tryz.prog 67 #[.int .i64 n] w (Ret w fun v w' => v = S (nS n)) := by
 refine f_in Tryz.func67 rfl ?_;refine go ?_;refine clb en131 (hc := cEq (Y := S (nS n)) (itoa_ok _ _ om om (ht.ext (Ext.refl _))) (congrArg S (itoa_nat n))) (hk := ?_);rintro en e8 ac rfl;have bb := ac.2;refine go ?_;exact f_ret1 (t := 2) (v := S (nS n)) rfl bb rfl rfl
end Go.Proofs.YteojhdahhaodoaaGreatDoor
namespace Go.Proofs.YteojhdahhaodoaaGreatDoor
set_option maxRecDepth 100000
open Go Go.Eng Go.RowKit
attribute [local irreducible] wpListIn Code.wpIn Oper.wpIn Exit.then Exit.inBlock Exit.noGoto
set_option maxHeartbeats 40000000
theorem Sc.fi {S : Nat} (h : Sc S) : Fi S := fi_pow h.lt dc
theorem ten_digs (k : Nat) : digs (49 :: List.replicate k 48) = List.replicate k 0 ++ [1] := by simp [digs]
theorem ofB_tens (k : Nat) : ofB 10 (List.replicate k 0 ++ [1]) = 10 ^ k := by
  induction k with
  | zero => rfl
  | succ k ih => rw [List.replicate_succ, List.cons_append]; show 0 + 10 * ofB 10 (List.replicate k 0 ++ [1]) = _; rw [ih, Nat.pow_succ]; omega
theorem ten_str {k : Nat} (h : k < 200) : (49 :: List.replicate k 48 : List UInt8) = nS (10 ^ k) := by
  have h1 : isNum (49 :: List.replicate k 48) = true := by
    simp only [isNum, Bool.and_eq_true, Bool.or_eq_true, decide_eq_true_eq]
    refine ⟨⟨⟨by simp, by simp; omega⟩, ?_⟩, Or.inr (by simp)⟩
    rw [List.all_cons, List.all_eq_true.2]
    · decide
    · intro x hx; rw [List.eq_of_mem_replicate hx]; decide
  have h2 := showN_valN h1
  have h3 : valN (49 :: List.replicate k 48) = 10 ^ k := by unfold valN; rw [ten_digs, ofB_tens]
  rw [h3] at h2
  rw [← h2]; unfold nS showI
  rw [if_neg om, Int.natAbs_natCast]
theorem zeros_str (k : Nat) : Lib.repeatL [48] k = List.replicate k 48 := by
  induction k with
  | zero => rfl
  | succ k ih => simp [Lib.repeatL, List.replicate_succ] at ih ⊢; exact ih
theorem one_str {k : Nat} (h : k < 200) : ([49] : List UInt8) ++ Lib.repeatL [48] k = nS (10 ^ k) := by rw [zeros_str, ← ten_str h]; rfl
theorem fz_sub {a b : Nat} (ha : a < 10 ^ 199) (hb : b < 10 ^ 199) : Fz ((a : Int) - (b : Int)) := by unfold Fz; omega
theorem spAt_ok {pl : Nat} (hp : pl < 200) {w : World} (ht : Tb w) :
    Calls Tryz.prog 35 #[.int .i64 pl] w (Ret w fun v w' => v = .agg #[.int .i64 pl, S (nS (10 ^ pl))]) := by
 refine f_in Tryz.func35 rfl ?_;refine go ?_;refine al inf1054 (fun fh fe bb => ?_);have ac := fe.2;refine go ?_;refine clb en132 (hc := repeat_ok [48] (pl) _ om dc) (hk := ?_);rintro fj fk en rfl;have bb := be en.2 bb;have ac := xt ac en.2;refine l_op (k_addS (a := [49]) (b := Lib.repeatL [48] (pl)) rfl rfl (by rw [zeros_str]; simp; omega) ?_);refine go ?_;refine SA bb (fun fm e8 fg => ?_);have ac := plw e8 ac;have fo := psz e8;refine go ?_;refine f_out (v := .agg #[.int .i64 pl, S (([49]) ++ (Lib.repeatL [48] (pl)))]) (res1  rfl ?_) ac (by rw [one_str hp]);refine res_cellA (t := 2) (cs := [.int .i64 pl, S (([49]) ++ (Lib.repeatL [48] (pl)))]) (b := w.heap.size) (o := 0) U1054 rfl sz1054 ?_ ?_;exact rfl;exact Blk.cells fg (i := 0) rfl
theorem spRatio_ok {a b : List UInt8} {w : World} :
    Calls Tryz.prog 26 #[S (a), S (b)] w (Ret w fun v w' => v = .agg #[S (a), S (b)]) := by
 refine f_in Tryz.func26 rfl ?_;refine go ?_;refine al inf36 (fun fg en e8 => ?_);have ac := en.2;refine go ?_;refine SA e8 (fun fh bb fe => ?_);have ac := plw bb ac;have fj := psz bb;refine go ?_;refine f_out (v := .agg #[S (a), S (b)]) (res1  rfl ?_) ac rfl;refine res_cellA (t := 4) (cs := [S (a), S (b)]) (b := w.heap.size) (o := 0) U36 rfl sz36 ?_ ?_;exact rfl;exact Blk.cells fe (i := 0) rfl
theorem spOf_ok {sO pl : Nat} {n d : Nat} {w : World} (hS : Sc sO) (hn : Fi n) (hd : Fi d) (h0 : 0 < d) (hm : Fi (n * sO)) (ht : Tb w) :
    Calls Tryz.prog 32 #[.agg #[.int .i64 pl, S (nS sO)], .agg #[S (nS n), S (nS d)]] w (Ret w fun v w' => v = .agg #[S (nS ((ofP sO n d).1)), S (nS ((ofP sO n d).2))]) := by
 refine f_in Tryz.func32 rfl ?_;refine go ?_;refine bx (fun fe gh ac => ?_);have e8 := gh.2;refine bx (fun gd gg bb => ?_);have ac := be gg.2 ac;have e8 := xt e8 gg.2;refine al inf1056 (fun gk fp en => ?_);have ac := be fp.2 ac;have bb := be fp.2 bb;have e8 := xt e8 fp.2;refine go ?_;refine cl en1043 (nMul_ok rfl rfl hn hS.fi hm (ht.ext e8)) ?_;rintro gl gm fg rfl;have ac := be fg.2 ac;have bb := be fg.2 bb;have en := be fg.2 en;have e8 := xt e8 fg.2;refine go ?_;refine c_an 7 ?_;refine sf ?_;refine sf_ae (V := S (nS ((n * sO) / d))) (fun g8 g9 fh ia => ?_) ?_;refine cl en1044 (nDown_ok rfl rfl hm hd h0 (ht.ext (xt e8 fh))) ?_;rintro ic ie fj rfl;have gi := fj.2;refine go ?_;exact fs ⟨gi, rfl⟩;refine sf ?_;intro ir iu fk iv;have ac := be fk.2 ac;have bb := be fk.2 bb;have en := be fk.2 en;have e8 := xt e8 fk.2;refine cl en1069 (nUp_ok rfl rfl hm hd h0 (ht.ext e8)) ?_;rintro iw ix fm rfl;have ac := be fm.2 ac;have bb := be fm.2 bb;have en := be fm.2 en;have e8 := xt e8 fm.2;refine go ?_;refine SA en (fun iy fo gj => ?_);have ac := pb fo ac;have bb := pb fo bb;have e8 := plw fo e8;have iz := psz fo;refine go ?_;refine f_out (v := .agg #[S (nS ((n * sO) / d)), S (nS (upn (n * sO) d))]) (res1  rfl ?_) e8 rfl;refine res_cellA (t := 4) (cs := [S (nS ((n * sO) / d)), S (nS (upn (n * sO) d))]) (b := gd.heap.size) (o := 0) U1056 rfl sz1056 ?_ ?_
 exact rfl;exact Blk.cells gj (i := 0) rfl
theorem spWhole_ok {sO pl : Nat} {n : Nat} {w : World} (hS : Sc sO) (h9 : n < 10 ^ 9) (hm : Fi (n * sO)) (ht : Tb w) :
    Calls Tryz.prog 30 #[.agg #[.int .i64 pl, S (nS sO)], .int .i64 n] w (Ret w fun v w' => v = .agg #[S (nS ((n * sO, n * sO).1)), S (nS ((n * sO, n * sO).2))]) := by
 have hn : Fi n := fi_pow (k := 9) h9 dc;refine f_in Tryz.func30 rfl ?_;refine go ?_;refine bx (fun fk fw ac => ?_);have en := fw.2;refine al inf1056 (fun f8 fm bb => ?_);have ac := be fm.2 ac;have en := xt en fm.2;refine go ?_;refine c_an 4 ?_;refine sf ?_;refine sf_ae (V := S (nS (n))) (fun gh gi e8 gj => ?_) ?_;refine cl en1067 (fromN_ok h9 (ht.ext (xt en e8))) ?_;rintro gk gl fe rfl;have f6 := fe.2;refine go ?_;exact fs ⟨f6, rfl⟩;refine sf ?_;intro gy gz fg g6;have ac := be fg.2 ac;have bb := be fg.2 bb;have en := xt en fg.2;refine cl en1043 (nMul_ok rfl rfl hn hS.fi hm (ht.ext en)) ?_;rintro g7 g8 fh rfl;have ac := be fh.2 ac;have bb := be fh.2 bb;have en := xt en fh.2;refine go ?_;refine SA bb (fun g9 fj f7 => ?_);have ac := pb fj ac;have en := plw fj en;have ia := psz fj;refine go ?_;refine f_out (v := .agg #[S (nS (n * sO)), S (nS (n * sO))]) (res1  rfl ?_) en rfl;refine res_cellA (t := 4) (cs := [S (nS (n * sO)), S (nS (n * sO))]) (b := fk.heap.size) (o := 0) U1056 rfl sz1056 ?_ ?_;exact rfl;exact Blk.cells f7 (i := 0) rfl
theorem spPlus_ok {sO pl : Nat} {a b : N2} {w : World} (h1 : Fi (a.1 + b.1)) (h2 : Fi (a.2 + b.2)) (ht : Tb w) :
    Calls Tryz.prog 78 #[.agg #[.int .i64 pl, S (nS sO)], .agg #[S (nS a.1), S (nS a.2)], .agg #[S (nS b.1), S (nS b.2)]] w (Ret w fun v w' => v = .agg #[S (nS ((plP a b).1)), S (nS ((plP a b).2))]) := by
 refine f_in Tryz.func78 rfl ?_;refine go ?_;refine bx (fun fo gl ac => ?_);have fe := gl.2;refine bx (fun fp gj bb => ?_);have ac := be gj.2 ac;have fe := xt fe gj.2;refine bx (fun gk gi en => ?_);have ac := be gi.2 ac;have bb := be gi.2 bb;have fe := xt fe gi.2;refine al inf1056 (fun gq fq e8 => ?_);have ac := be fq.2 ac;have bb := be fq.2 bb;have en := be fq.2 en;have fe := xt fe fq.2;refine go ?_;refine c_an 9 ?_;refine sf ?_;refine sf_ae (V := S (nS (a.1 + b.1))) (fun ig ii fg ij => ?_) ?_;refine cl en1045 (nAdd_ok rfl rfl h1 (ht.ext (xt fe fg))) ?_;rintro ik il fh rfl;have gm := fh.2;refine go ?_;exact fs ⟨gm, rfl⟩;refine sf ?_;intro i7 i8 fj ja;have ac := be fj.2 ac;have bb := be fj.2 bb;have en := be fj.2 en;have e8 := be fj.2 e8;have fe := xt fe fj.2;refine cl en1045 (nAdd_ok rfl rfl h2 (ht.ext fe)) ?_;rintro jb jc fk rfl;have ac := be fk.2 ac;have bb := be fk.2 bb;have en := be fk.2 en;have e8 := be fk.2 e8;have fe := xt fe fk.2;refine go ?_;refine SA e8 (fun jd fm gp => ?_);have ac := pb fm ac;have bb := pb fm bb;have en := pb fm en;have fe := plw fm fe;have je := psz fm;refine go ?_;refine f_out (v := .agg #[S (nS (a.1 + b.1)), S (nS (a.2 + b.2))]) (res1  rfl ?_) fe rfl;refine res_cellA (t := 6) (cs := [S (nS (a.1 + b.1)), S (nS (a.2 + b.2))]) (b := gk.heap.size) (o := 0) U1056 rfl sz1056 ?_ ?_
 exact rfl;exact Blk.cells gp (i := 0) rfl
theorem spMinus_ok {sO pl : Nat} {a b : N2} {w : World} (ha : Bk 199 a) (hb : Bk 199 b) (ht : Tb w) :
    Calls Tryz.prog 94 #[.agg #[.int .i64 pl, S (nS sO)], .agg #[S (nS a.1), S (nS a.2)], .agg #[S (nS b.1), S (nS b.2)]] w (Ret w fun v w' => v = .agg #[S (showI ((miP a b).1)), S (showI ((miP a b).2))]) := by
 have fa := ha.fi dc;have fb := hb.fi dc;refine f_in Tryz.func94 rfl ?_;refine go ?_;refine bx (fun fo gl ac => ?_);have fe := gl.2;refine bx (fun fp gj bb => ?_);have ac := be gj.2 ac;have fe := xt fe gj.2;refine bx (fun gk gi en => ?_);have ac := be gi.2 ac;have bb := be gi.2 bb;have fe := xt fe gi.2;refine al inf1056 (fun gq fq e8 => ?_);have ac := be fq.2 ac;have bb := be fq.2 bb;have en := be fq.2 en;have fe := xt fe fq.2;refine go ?_;refine c_an 9 ?_;refine sf ?_;refine sf_ae (V := S (showI (((a.1 : Nat) : Int) - ((b.2 : Nat) : Int)))) (fun ig ii fg ij => ?_) ?_;refine cl en1038 (zSub_ok rfl rfl fa.1.z fb.2.z (fz_sub ha.1 hb.2) (ht.ext (xt fe fg))) ?_;rintro ik il fh rfl;have gm := fh.2;refine go ?_;exact fs ⟨gm, rfl⟩;refine sf ?_;intro i7 i8 fj ja;have ac := be fj.2 ac;have bb := be fj.2 bb;have en := be fj.2 en;have e8 := be fj.2 e8;have fe := xt fe fj.2;refine cl en1038 (zSub_ok rfl rfl fa.2.z fb.1.z (fz_sub ha.2 hb.1) (ht.ext fe)) ?_;rintro jb jc fk rfl;have ac := be fk.2 ac;have bb := be fk.2 bb;have en := be fk.2 en;have e8 := be fk.2 e8;have fe := xt fe fk.2;refine go ?_;refine SA e8 (fun jd fm gp => ?_);have ac := pb fm ac;have bb := pb fm bb;have en := pb fm en;have fe := plw fm fe;have je := psz fm;refine go ?_;refine f_out (v := .agg #[S (showI (((a.1 : Nat) : Int) - ((b.2 : Nat) : Int))), S (showI (((a.2 : Nat) : Int) - ((b.1 : Nat) : Int)))]) (res1  rfl ?_) fe rfl
 refine res_cellA (t := 6) (cs := [S (showI (((a.1 : Nat) : Int) - ((b.2 : Nat) : Int))), S (showI (((a.2 : Nat) : Int) - ((b.1 : Nat) : Int)))]) (b := gk.heap.size) (o := 0) U1056 rfl sz1056 ?_ ?_;exact rfl;exact Blk.cells gp (i := 0) rfl
theorem spTimes_ok {sO pl : Nat} {a b : N2} {w : World} (hS : Sc sO) (ha : Bk 95 a) (hb : Bk 95 b) (ht : Tb w) :
    Calls Tryz.prog 74 #[.agg #[.int .i64 pl, S (nS sO)], .agg #[S (nS a.1), S (nS a.2)], .agg #[S (nS b.1), S (nS b.2)]] w (Ret w fun v w' => v = .agg #[S (nS ((tmP sO a b).1)), S (nS ((tmP sO a b).2))]) := by
 have fa := ha.fi dc;have fb := hb.fi dc;refine f_in Tryz.func74 rfl ?_;refine go ?_;refine bx (fun f6 gz ac => ?_);have fe := gz.2;refine bx (fun f7 gw bb => ?_);have ac := be gw.2 ac;have fe := xt fe gw.2;refine bx (fun gy gv en => ?_);have ac := be gv.2 ac;have bb := be gv.2 bb;have fe := xt fe gv.2;refine al inf1056 (fun ia f8 e8 => ?_);have ac := be f8.2 ac;have bb := be f8.2 bb;have en := be f8.2 en;have fe := xt fe f8.2;refine go ?_;refine c_an 15 ?_;refine sf ?_;refine sf_ae (V := S (nS (a.1 * b.1))) (fun iu iv fg iw => ?_) ?_;refine clb en1043 (hc := nMul_ok rfl rfl fa.1 fb.1 (fi_mul ha.1 hb.1 dc) (ht.ext (xt fe fg))) (hk := ?_);rintro ix iy fh rfl;have g6 := fh.2;refine go ?_;exact fs ⟨g6, rfl⟩;refine sf ?_;refine sf_ae (V := S (nS ((a.1 * b.1) / sO))) (fun jc jd fj je => ?_) ?_;refine clb en1044 (hc := nDown_ok rfl rfl (fi_mul ha.1 hb.1 dc) hS.fi hS.pos (ht.ext (xt fe fj))) (hk := ?_);rintro jf jg fk rfl;have g7 := fk.2;refine go ?_;exact fs ⟨g7, rfl⟩;refine sf ?_;refine sf_ae (V := S (nS (a.2 * b.2))) (fun jt ju fm jv => ?_) ?_;refine clb en1043 (hc := nMul_ok rfl rfl fa.2 fb.2 (fi_mul ha.2 hb.2 dc) (ht.ext (xt fe fm))) (hk := ?_);rintro jw jx fo rfl;have g8 := fo.2;refine go ?_;exact fs ⟨g8, rfl⟩;refine sf ?_;intro j6 j7 fp j8;have ac := be fp.2 ac;have bb := be fp.2 bb;have en := be fp.2 en;have e8 := be fp.2 e8;have fe := xt fe fp.2
 refine clb en1069 (hc := nUp_ok rfl rfl (fi_mul ha.2 hb.2 dc) hS.fi hS.pos (ht.ext fe)) (hk := ?_);rintro j9 ka fq rfl;have ac := be fq.2 ac;have bb := be fq.2 bb;have en := be fq.2 en;have e8 := be fq.2 e8;have fe := xt fe fq.2;refine go ?_;refine SA e8 (fun kb fw g9 => ?_);have ac := pb fw ac;have bb := pb fw bb;have en := pb fw en;have fe := plw fw fe;have ke := psz fw;refine go ?_;refine f_out (v := .agg #[S (nS ((a.1 * b.1) / sO)), S (nS (upn (a.2 * b.2) sO))]) (res1  rfl ?_) fe rfl;refine res_cellA (t := 6) (cs := [S (nS ((a.1 * b.1) / sO)), S (nS (upn (a.2 * b.2) sO))]) (b := gy.heap.size) (o := 0) U1056 rfl sz1056 ?_ ?_;exact rfl;exact Blk.cells g9 (i := 0) rfl
theorem spOver_ok {sO pl : Nat} {a b : N2} {w : World} (hS : Sc sO) (ha : Bk 95 a) (hb : Bk 190 b) (h1 : 0 < b.1) (h2 : 0 < b.2) (ht : Tb w) :
    Calls Tryz.prog 29 #[.agg #[.int .i64 pl, S (nS sO)], .agg #[S (nS a.1), S (nS a.2)], .agg #[S (nS b.1), S (nS b.2)]] w (Ret w fun v w' => v = .agg #[S (nS ((ovP sO a b).1)), S (nS ((ovP sO a b).2))]) := by
 have fa := ha.fi dc;have fb := hb.fi dc;refine f_in Tryz.func29 rfl ?_;refine go ?_;refine bx (fun f6 gz ac => ?_);have fe := gz.2;refine bx (fun f7 gw bb => ?_);have ac := be gw.2 ac;have fe := xt fe gw.2;refine bx (fun gy gv en => ?_);have ac := be gv.2 ac;have bb := be gv.2 bb;have fe := xt fe gv.2;refine al inf1056 (fun ia f8 e8 => ?_);have ac := be f8.2 ac;have bb := be f8.2 bb;have en := be f8.2 en;have fe := xt fe f8.2;refine go ?_;refine c_an 15 ?_;refine sf ?_;refine sf_ae (V := S (nS (a.1 * sO))) (fun iu iv fg iw => ?_) ?_;refine clb en1043 (hc := nMul_ok rfl rfl fa.1 hS.fi (fi_mul ha.1 hS.lt dc) (ht.ext (xt fe fg))) (hk := ?_);rintro ix iy fh rfl;have g6 := fh.2;refine go ?_;exact fs ⟨g6, rfl⟩;refine sf ?_;refine sf_ae (V := S (nS ((a.1 * sO) / b.2))) (fun jc jd fj je => ?_) ?_;refine clb en1044 (hc := nDown_ok rfl rfl (fi_mul ha.1 hS.lt dc) fb.2 h2 (ht.ext (xt fe fj))) (hk := ?_);rintro jf jg fk rfl;have g7 := fk.2;refine go ?_;exact fs ⟨g7, rfl⟩;refine sf ?_;refine sf_ae (V := S (nS (a.2 * sO))) (fun jt ju fm jv => ?_) ?_;refine clb en1043 (hc := nMul_ok rfl rfl fa.2 hS.fi (fi_mul ha.2 hS.lt dc) (ht.ext (xt fe fm))) (hk := ?_);rintro jw jx fo rfl;have g8 := fo.2;refine go ?_;exact fs ⟨g8, rfl⟩;refine sf ?_;intro j6 j7 fp j8;have ac := be fp.2 ac;have bb := be fp.2 bb;have en := be fp.2 en;have e8 := be fp.2 e8;have fe := xt fe fp.2
 refine clb en1069 (hc := nUp_ok rfl rfl (fi_mul ha.2 hS.lt dc) fb.1 h1 (ht.ext fe)) (hk := ?_);rintro j9 ka fq rfl;have ac := be fq.2 ac;have bb := be fq.2 bb;have en := be fq.2 en;have e8 := be fq.2 e8;have fe := xt fe fq.2;refine go ?_;refine SA e8 (fun kb fw g9 => ?_);have ac := pb fw ac;have bb := pb fw bb;have en := pb fw en;have fe := plw fw fe;have ke := psz fw;refine go ?_;refine f_out (v := .agg #[S (nS ((a.1 * sO) / b.2)), S (nS (upn (a.2 * sO) b.1))]) (res1  rfl ?_) fe rfl;refine res_cellA (t := 6) (cs := [S (nS ((a.1 * sO) / b.2)), S (nS (upn (a.2 * sO) b.1))]) (b := gy.heap.size) (o := 0) U1056 rfl sz1056 ?_ ?_;exact rfl;exact Blk.cells g9 (i := 0) rfl
theorem spBy_ok {sO pl : Nat} {a : N2} {n d : Nat} {w : World} (ha : Bk 190 a) (hn : n < 10 ^ 9) (hd : d < 10 ^ 9) (h0 : 0 < d) (ht : Tb w) :
    Calls Tryz.prog 70 #[.agg #[.int .i64 pl, S (nS sO)], .agg #[S (nS a.1), S (nS a.2)], .int .i64 n, .int .i64 d] w (Ret w fun v w' => v = .agg #[S (nS ((byP a n d).1)), S (nS ((byP a n d).2))]) := by
 have fa := ha.fi dc;refine f_in Tryz.func70 rfl ?_;refine go ?_;refine bx (fun fe gq ac => ?_);have e8 := gq.2;refine bx (fun gm gp bb => ?_);have ac := be gp.2 ac;have e8 := xt e8 gp.2;refine al inf1056 (fun gz f8 en => ?_);have ac := be f8.2 ac;have bb := be f8.2 bb;have e8 := xt e8 f8.2;refine go ?_;refine cl en1067 (fromN_ok hn (ht.ext e8)) ?_;rintro g6 g7 fg rfl;have ac := be fg.2 ac;have bb := be fg.2 bb;have en := be fg.2 en;have e8 := xt e8 fg.2;refine go ?_;refine cl en1067 (fromN_ok hd (ht.ext e8)) ?_;rintro g8 g9 fh rfl;have ac := be fh.2 ac;have bb := be fh.2 bb;have en := be fh.2 en;have e8 := xt e8 fh.2;refine go ?_;refine c_an 11 ?_;refine sf ?_;refine sf_ae (V := S (nS (a.1 * n))) (fun io ip fj iq => ?_) ?_;refine clb en1043 (hc := nMul_ok rfl rfl fa.1 (fi_pow hn dc) (fi_mul ha.1 hn dc) (ht.ext (xt e8 fj))) (hk := ?_);rintro ir iu fk rfl;have gu := fk.2;refine go ?_;exact fs ⟨gu, rfl⟩;refine sf ?_;refine sf_ae (V := S (nS ((a.1 * n) / d))) (fun iy iz fm i6 => ?_) ?_;refine clb en1044 (hc := nDown_ok rfl rfl (fi_mul ha.1 hn dc) (fi_pow hd dc) h0 (ht.ext (xt e8 fm))) (hk := ?_);rintro i7 i8 fo rfl;have gv := fo.2;refine go ?_;exact fs ⟨gv, rfl⟩;refine sf ?_;refine sf_ae (V := S (nS (a.2 * n))) (fun jj jk fp jl => ?_) ?_;refine clb en1043 (hc := nMul_ok rfl rfl fa.2 (fi_pow hn dc) (fi_mul ha.2 hn dc) (ht.ext (xt e8 fp))) (hk := ?_)
 rintro jm jn fq rfl;have gw := fq.2;refine go ?_;exact fs ⟨gw, rfl⟩;refine sf ?_;intro jr js fw jt;have ac := be fw.2 ac;have bb := be fw.2 bb;have en := be fw.2 en;have e8 := xt e8 fw.2;refine clb en1069 (hc := nUp_ok rfl rfl (fi_mul ha.2 hn dc) (fi_pow hd dc) h0 (ht.ext e8)) (hk := ?_);rintro ju jv f6 rfl;have ac := be f6.2 ac;have bb := be f6.2 bb;have en := be f6.2 en;have e8 := xt e8 f6.2;refine go ?_;refine SA en (fun jw f7 gy => ?_);have ac := pb f7 ac;have bb := pb f7 bb;have e8 := plw f7 e8;have jx := psz f7;refine go ?_;refine f_out (v := .agg #[S (nS ((a.1 * n) / d)), S (nS (upn (a.2 * n) d))]) (res1  rfl ?_) e8 rfl;refine res_cellA (t := 8) (cs := [S (nS ((a.1 * n) / d)), S (nS (upn (a.2 * n) d))]) (b := gm.heap.size) (o := 0) U1056 rfl sz1056 ?_ ?_;exact rfl;exact Blk.cells gy (i := 0) rfl
end Go.Proofs.YteojhdahhaodoaaGreatDoor
namespace Go.Proofs.YteojhdahhaodoaaGreatDoor
open Go Go.Eng Go.RowKit
structure Stab (n : Nat) (I : World → Prop) : Prop where
  ext : ∀ {A B : World}, Ext A B → I A → I B
  put : ∀ {A B : World} {b : Nat}, Put A B b → n ≤ b → I A → I B
structure KpC (bs : List Nat) (W W' : World) : Prop where
  size : W.heap.size ≤ W'.heap.size
  blk : ∀ {b : Nat} {t : TypeId} {cs : Array Value}, b ∉ bs → Blk W b t cs → Blk W' b t cs
theorem KpC.trans {bs : List Nat} {A B C : World} (h : KpC bs A B) (k : KpC bs B C) : KpC bs A C := ⟨Nat.le_trans h.size k.size, fun hn hb => k.blk hn (h.blk hn hb)⟩
theorem KpC.of {bs : List Nat} {A B : World} (h : Keeps bs A B) : KpC bs A B := ⟨h.size, fun hn hb => h.blk hn hb⟩
theorem KpC.putObj {bs : List Nat} {A : World} {b : Nat} {r r' : Loop} (h : A.heap[b]? = some (.loop r)) : KpC bs A (A.putObj b (.loop r')) :=
  ⟨by simp, fun {c t cs} _ hb => (World.putObj_heap_other (fun e => by subst e; unfold Blk at hb; rw [h] at hb; cases hb)).trans hb⟩
theorem put_putObj (W : World) (b : Nat) (o : Obj) : Put W (W.putObj b o) b := ⟨rfl, rfl, rfl, by simp, fun k hk => World.putObj_heap_other hk⟩
def IterM (P : Program) (gf : Nat) (lb : List Value) (enc : Nat → List Value) (bs : List Nat) (Kq : World → Prop) (M : Nat) (w : World) : Prop :=
  ∀ (l : Nat) (J Jx : Nat → World → Prop) (W : World), Below w.heap.size w W → (∀ k, Stab W.heap.size (J k)) → (∀ k, Stab W.heap.size (Jx k)) → (∀ k W1, J k W1 → k < M) →
    (∀ k W1, J k W1 → YieldAt Fence.wide 7 P l (enc k).toArray W1 fun e W' => (e = .returned (.bool true) ∧ J (k + 1) W' ∧ KpC bs W1 W' ∧ (Kq W1 → Kq W')) ∨ (e = .returned (.bool false) ∧ Jx (k + 1) W')) →
    J 0 W → CallsIn Fence.wide 8 P gf (#[.func (.yield l) #[] #[]] ++ lb.toArray) W fun e W' => (∃ v, e = .returned v) ∧ ∃ k, Jx k W'
def rndM (bs : List Nat) (Kq : World → Prop) (I : Nat → World → Prop) (Ix : Code → Nat → World → Prop) (k : Nat) (W : World) : Exit → Act → World → Prop
  | .normal, _, W' => KeepsOthers W W' ∧ KpC bs W W' ∧ (Kq W → Kq W') ∧ I k W'
  | .ret, _, W' => KeepsOthers W W' ∧ Ix .ret k W'
  | .exit id, _, W' => KeepsOthers W W' ∧ Ix (.exit id) k W'
  | _, _, _ => False
def BkM (W : World) (b : Nat) (r : Loop) : Prop := W.heap[b + 1]? = some (.loop r) ∧ W.heap[b]? = some (.deferred (some []))
theorem BkM.put {W : World} {b : Nat} {r : Loop} (h : BkM W b r) (r' : Loop) : BkM (W.putObj (b + 1) (.loop r')) b r' :=
  ⟨World.putObj_heap_same (Array.getElem?_eq_some_iff.1 h.1).1, (World.putObj_heap_other (by omega)).trans h.2⟩
theorem BkM.kept {W W' : World} {b : Nat} {r : Loop} (h : BkM W b r) (k : KeepsOthers W W') : BkM W' b r := ⟨k.same _ _ h.1 rfl, k.same _ _ h.2 rfl⟩
theorem BkM.stab {b n : Nat} {r : Loop} (h : b + 1 < n) : Stab n fun W => BkM W b r :=
  ⟨fun k h => ⟨k.heap h.1, k.heap h.2⟩, fun k hb h => ⟨(k.block _ (by omega)).trans h.1, (k.block _ (by omega)).trans h.2⟩⟩
theorem Stab.and {n : Nat} {I J : World → Prop} (h : Stab n I) (k : Stab n J) : Stab n fun W => I W ∧ J W := ⟨fun e x => ⟨h.ext e x.1, k.ext e x.2⟩, fun e l x => ⟨h.put e l x.1, k.put e l x.2⟩⟩
theorem Stab.ex {α : Type} {n : Nat} {I : α → World → Prop} (h : ∀ a, Stab n (I a)) : Stab n fun W => ∃ a, I a W := ⟨fun e ⟨a, x⟩ => ⟨a, (h a).ext e x⟩, fun e l ⟨a, x⟩ => ⟨a, (h a).put e l x⟩⟩
theorem Stab.mono {n m : Nat} {I : World → Prop} (h : Stab n I) (hl : n ≤ m) : Stab m I := ⟨h.ext, fun k hb => h.put k (Nat.le_trans hl hb)⟩
theorem c_rangeM {P : Program} {w : World} {N : Nat} {e : Nat → Value} {ds : List Deferred} {Q : Exit → Act → World → Prop} {M : Nat} {enc : Nat → List Value} {bs : List Nat} {Kq : World → Prop} {gf : Nat} {lb : List Value} {g : Operand} {ps : List Nat} {assign body : Code}
    (hg : ev N e g = .func (.func gf) #[] lb.toArray) (eg : Enters P gf) (hit : IterM P gf lb enc bs Kq M w)
    (hKq : Stab w.heap.size Kq) (hps : ∀ i, (enc i).length = ps.length)
    (I : Nat → World → Prop) (Ix : Code → Nat → World → Prop) (hI : ∀ k, Stab w.heap.size (I k)) (hIx : ∀ c k, Stab w.heap.size (Ix c k)) (hM : ∀ k W, I k W → k < M) (h0 : I 0 w)
    (A : (Nat → Value) → Nat → (Nat → Value) → World → Prop) (hA : ∀ k e' W b r r', w.heap.size ≤ b → W.heap[b]? = some (.loop r) → A e k e' W → A e k e' (W.putObj b (.loop r')))
    (hassign : ∀ l k W K, I k W → (∀ e' W', Ext W W' → A e k e' W' → K (act N e' []) W') → assign.wpIn (Fw (some l)) 7 P (Exit.then K (fun _ _ _ => False)) (act N (updL e ps (enc k)) []) W)
    (hbody : ∀ l k e' W, A e k e' W → body.wpIn (Fw (some l)) 7 P (rndM bs Kq I Ix (k + 1) W) (act N e' []) W)
    (hstop : ∀ D c k W, w.heap.size ≤ D → Ix c k W → Dfr W D → c.wpIn (Fw none) 9 P Q (act N e (⟨.collected D, #[]⟩ :: ds)) W) :
    (Code.rangeFunc g ps.toArray assign body).wpIn (Fw none) 9 P Q (act N e ds) w := by
  refine wpIn_rangeFunc (F := Fence.wide) (n := 9) fun fn hfn => ?_
  obtain ⟨R, hR⟩ : ∃ R : LoopState → Option Code → Loop, R = fun st pe => { state := st, pending := pe, fn, tmps := (act N e ds).tmps, params := ps.toArray, assign, body, defers := w.heap.size } := ⟨_, rfl⟩
  obtain ⟨V, hV⟩ : ∃ V, (w.alloc (.deferred (some []))).alloc (.loop (R .ready none)) = V := ⟨_, rfl⟩
  have hB : BkM V w.heap.size (R .ready none) := by
    refine ⟨?_, ?_⟩ <;> rw [← hV]
    · have h := World.alloc_heap_new (w.alloc (.deferred (some []))) (.loop (R .ready none)); rwa [World.size_alloc] at h
    · exact (Below.heap_alloc _ _ _ (by simp)).trans (World.alloc_heap_new w _)
  have hsz : w.heap.size + 1 < V.heap.size := by rw [← hV]; simp
  have hbl : Below w.heap.size w V := by rw [← hV]; exact ((Below.refl _ w).alloc (Nat.le_refl _) _).alloc (by simp) _
  have hI0 : I 0 V := (hI 0).ext hbl h0
  refine ⟨w.heap.size + 1, [⟨.collected w.heap.size, #[]⟩], V, ⟨.fn (.func gf) lb.toArray, #[.func (.yield (w.heap.size + 1)) #[] #[]]⟩, V, gf, #[.func (.yield (w.heap.size + 1)) #[] #[]] ++ lb.toArray, V, ?_, ?_, ?_, ?_, fun _ => by omega, ?_⟩
  · rw [← hV, hR]; exact run_enterLoop_outer _ _ _ _ _
  · have hg' : (act N e ds).eval g = .func (.func gf) #[] lb.toArray := by rw [act_eval]; exact hg
    simp only [resolve, hg']; simp [go_sem]
  · intro f' _; trivial
  · simp [invoke, go_sem]; exact eg _ _
  refine (hit (w.heap.size + 1) (fun k W => I k W ∧ BkM W w.heap.size (R .ready none)) (fun k W => ∃ c, Ix c k W ∧ BkM W w.heap.size (R .done (some c))) V hbl
    (fun k => ((hI k).mono (by omega)).and (BkM.stab hsz)) (fun k => Stab.ex fun c => ((hIx c k).mono (by omega)).and (BkM.stab hsz)) (fun k W h => hM k W h.1) ?_ ⟨hI0, hB⟩).mono ?_
  ·
    rintro k W ⟨hi, hk⟩
    have hy := run_yield (P := P) (args := (enc k).toArray) hk.1 (by rw [hR]; simpa using hps k)
    rw [hR] at hy
    refine ⟨fn, _, assign, body, hy, roundIn_of_wpIn hfn ?_⟩
    have hfold : (⟨(ps.toArray.zip (enc k).toArray).foldl (fun t (p, v) => t.setIfInBounds p v) (act N e ds).tmps, []⟩ : Act) = act N (updL e ps (enc k)) [] := by
      have h := act_fold N ps (enc k) e
      have h2 : act N (updL e ps (enc k)) [] = ⟨(act N (updL e ps (enc k)) []).tmps, []⟩ := rfl
      rw [h2, ← h]
      simp only [List.zip_toArray, List.foldl_toArray]
      rfl
    rw [hfold]
    refine hassign (w.heap.size + 1) k W _ hi fun e' W' hx ha => ?_
    have hk : BkM W' w.heap.size (R .ready none) := ⟨hx.heap hk.1, hx.heap hk.2⟩
    refine ⟨_, run_beginRound hk.1 (by rw [hR]), ?_⟩
    have hk2 := hk.put { R .ready none with state := .busy }
    refine wpIn_mono (hbody (w.heap.size + 1) k e' _ (hA k e' _ _ _ _ (by omega) hk.1 ha)) ?_
    have hkx : KpC bs W W' := ⟨hx.size, fun _ h => h.ext hx⟩
    have fin : ∀ (j : Option Code) (W3 : World), KeepsOthers (W'.putObj (w.heap.size + 1) (.loop { R .ready none with state := .busy })) W3 →
        BkM W3 w.heap.size { R .ready none with state := .busy } ∧ (Instr.endRound (w.heap.size + 1) j).run P W3 = .ok (.bool j.isNone) (W3.putObj (w.heap.size + 1) (.loop (R (if j.isNone then .ready else .done) j))) := fun j W3 h3 => by
      have h4 := hk2.kept h3
      refine ⟨h4, ?_⟩
      have h5 := run_endRound (P := P) j h4.1
      rw [hR] at h5 ⊢
      exact h5
    rintro x a3 W3 hp
    cases x with
    | normal =>
      obtain ⟨h1, h1', h2, h3⟩ := hp
      obtain ⟨h4, h5⟩ := fin none W3 h1
      exact ⟨_, _, h5, .inl ⟨rfl, ⟨(hI _).put (put_putObj _ _ _) (by omega) h3, h4.put _⟩, hkx.trans (((KpC.putObj hk.1).trans h1').trans (KpC.putObj h4.1)), fun h => hKq.put (put_putObj _ _ _) (by omega) (h2 (hKq.put (put_putObj _ _ _) (by omega) (hKq.ext hx h)))⟩⟩
    | ret =>
      obtain ⟨h1, h3⟩ := hp
      obtain ⟨h4, h5⟩ := fin (some .ret) W3 h1
      exact ⟨_, _, h5, .inr ⟨rfl, .ret, (hIx _ _).put (put_putObj _ _ _) (by omega) h3, h4.put _⟩⟩
    | exit id =>
      obtain ⟨h1, h3⟩ := hp
      obtain ⟨h4, h5⟩ := fin (some (.exit id)) W3 h1
      exact ⟨_, _, h5, .inr ⟨rfl, .exit id, (hIx _ _).put (put_putObj _ _ _) (by omega) h3, h4.put _⟩⟩
    | goto t => exact hp.elim
    | panic c => exact hp.elim
    | outgrown => exact hp.elim
  · rintro x W2 ⟨⟨v, rfl⟩, k, c, hi, hk⟩
    have h := run_endLoop (P := P) hk.1 (by rw [hR]; simp)
    rw [hR] at h
    refine ⟨some c, _, h, hstop _ c k _ (Nat.le_refl _) ((hIx c k).put (put_putObj _ _ _) (by omega) hi) (hk.put _).2⟩
end Go.Proofs.YteojhdahhaodoaaGreatDoor
namespace Go.Proofs.YteojhdahhaodoaaGreatDoor
set_option maxRecDepth 100000
open Go Go.Eng Go.RowKit
attribute [local irreducible] wpListIn Code.wpIn Oper.wpIn Exit.then Exit.inBlock Exit.noGoto
set_option maxHeartbeats 40000000
def vN (p : N2) : Value := .agg #[S (nS p.1), S (nS p.2)]
def fv (g : Nat) (lb : Array Value) : Value := .func (.func g) #[] lb
def SeqV (t0 : N2) (f : Value) (W : World) (v : Value) : Prop := ∃ b1 b2, v = .func (.func 113) #[] #[.pointer (some ⟨b1, 0, none⟩), .pointer (some ⟨b2, 0, none⟩)] ∧ Blk W b1 56 #[S (nS t0.1), S (nS t0.2)] ∧ Blk W b2 104 #[f]
theorem SeqV.ext {t0 : N2} {f v : Value} {A B : World} (k : Ext A B) (h : SeqV t0 f A v) : SeqV t0 f B v := by
  obtain ⟨b1, b2, e, h1, h2⟩ := h
  exact ⟨b1, b2, e, h1.ext k, h2.ext k⟩
def lastB (q : Bool) (t l : N2) : Bool := q && (decide (t.2 ≤ 2) && decide (t.2 * 2 ≤ l.2 + 2))
section
variable {q : Bool} {t l : N2}
theorem lb_0 (h : q = false) : Value.bool q = .bool (lastB q t l) := by subst h; rfl
theorem lb_1 (h : q = true) (h1 : ¬ cmpI ((t.2 : Nat) : Int) ((2 : Nat) : Int) ≤ 0) : Value.bool false = .bool (lastB q t l) := by
  rw [cmpI_nonpos] at h1; subst h; unfold lastB; rw [decide_eq_false om]; rfl
theorem lb_2 (h : q = true) (h1 : cmpI ((t.2 : Nat) : Int) ((2 : Nat) : Int) ≤ 0) : Value.bool (decide (cmpI (((t.2 * 2 : Nat)) : Int) (((l.2 + 2 : Nat)) : Int) ≤ 0)) = .bool (lastB q t l) := by
  rw [cmpI_nonpos] at h1; subst h; unfold lastB; rw [decide_eq_true (show t.2 ≤ 2 by omega), Bool.true_and, Bool.true_and]
  congr 1; rw [decide_eq_decide, cmpI_nonpos]; omega
end
def lstP (T : Nat → N2) : Nat → N2
  | 0 => (0, 0)
  | k + 1 => T k
theorem SumR.last {T : Nat → N2} {m k : Nat} (h : SumR T m) (hk : k ≤ m) : lastB (decide (k ≠ 0)) (T k) (lstP T k) = decide (k = m) := by
  unfold lastB
  by_cases e : k = m
  · subst e
    have hp := h.pos
    obtain ⟨p, rfl⟩ : ∃ p, k = p + 1 := ⟨k - 1, by omega⟩
    have := h.stop
    rw [decide_eq_true om, decide_eq_true this.1, decide_eq_true (show (T (p + 1)).2 * 2 ≤ (lstP T (p + 1)).2 + 2 from this.2), decide_eq_true rfl]; rfl
  · rw [decide_eq_false e]
    rcases h.go k om with h0 | h0
    · rw [decide_eq_false om]; rfl
    · cases k with
      | zero => rfl
      | succ p =>
        have h1 : ¬ ((T (p + 1)).2 ≤ 2 ∧ (T (p + 1)).2 * 2 ≤ (lstP T (p + 1)).2 + 2) := h0
        by_cases h2 : (T (p + 1)).2 ≤ 2
        · rw [decide_eq_false (fun e => h1 ⟨h2, e⟩)]; simp
        · rw [decide_eq_false h2]; simp
theorem cmpN {a b : Nat} {w : World} {l m : List UInt8} (hl : l = nS a) (hm : m = nS b) (ha : Fi a) (hb : Fi b) : Calls Tryz.prog 41 #[S l, S m] w (Ret w fun v _ => v = .int .i64 (cmpI (a : Int) (b : Int))) := by
  subst hl hm
  exact cEq (iCmp_ok _ _ _) (congrArg (Value.int .i64) (cmpS_Z ha.z hb.z))
theorem spWhole0_ok {sO pl : Nat} {w : World} (hS : Sc sO) (ht : Tb w) : Calls Tryz.prog 30 #[.agg #[.int .i64 pl, S (nS sO)], .int .i64 0] w (Ret w fun v _ => v = .agg #[S (nS 0), S (nS 0)]) := by
  have h := spWhole_ok (n := 0) (pl := pl) hS dc (by rw [Nat.zero_mul]; unfold Fi; decide) ht
  simp only [Nat.zero_mul] at h
  exact h
theorem terms_ok {t0 : N2} {g : Nat} {lb : Array Value} {w : World} :
    Calls Tryz.prog 72 #[.agg #[S (nS t0.1), S (nS t0.2)], .func (.func g) #[] lb] w (Ret w fun v w' => SeqV t0 (fv g lb) w' v) := by
 refine f_in Tryz.func72 rfl ?_;refine go ?_;refine bx (fun ac fe bb => ?_);have en := fe.2;refine bx (v := .func (.func g) #[] lb) (hx := rfl) (fun fh e8 fg => ?_);have bb := be e8.2 bb;have en := xt en e8.2;refine l_op (k_assign (v := .nilFunc) rfl ?_);refine go ?_;refine l_op (k_makeFunc (vf := []) (vc := [.pointer (some ⟨w.heap.size, 0, none⟩), .pointer (some ⟨ac.heap.size, 0, none⟩)]) rfl rfl ?_);refine go ?_;exact f_ret1 (t := 4) (v := .func (.func 113) #[] #[.pointer (some ⟨w.heap.size, 0, none⟩), .pointer (some ⟨ac.heap.size, 0, none⟩)]) rfl en ⟨_, _, rfl, bb, fg⟩ rfl
theorem last_ok {b1 b2 : Nat} {q : Bool} {t l : N2} {w : World} (h1 : Blk w b1 4 #[.bool q]) (h2 : Blk w b2 56 #[S (nS l.1), S (nS l.2)]) (ht2 : Bk 99 t) (hl : Bk 99 l) (ht : Tb w) :
    Calls Tryz.prog 112 #[.agg #[S (nS t.1), S (nS t.2)], .pointer (some ⟨b1, 0, none⟩), .pointer (some ⟨b2, 0, none⟩)] w (Ret w fun v w' => v = .bool (lastB q t l)) := by
 have ft := (ht2.fi dc).2;have f2 : Fi (t.2 * 2) := by have := ht2.2; unfold Fi; omega
 have fl : Fi (l.2 + 2) := by have := hl.2; unfold Fi; omega
 refine f_in Tryz.func112 rfl ?_;refine go ?_;refine bx (fun iz fw ac => ?_);have h1 := be fw.2 h1;have h2 := be fw.2 h2;have e8 := fw.2;refine go ?_;rcases Bool.eq_false_or_eq_true (q) with bb | bb;by_cases en : (cmpI (((t.2 : Nat)) : Int) (((2 : Nat)) : Int)) ≤ 0;refine c_an 13 ?_;refine sf ?_;refine sf_ae (V := .int .i64 (cmpI (((t.2 : Nat)) : Int) (((2 : Nat)) : Int))) (fun jj jk gd jl => ?_) ?_;refine go ?_;refine clb en84 (hc := cmpN rfl lit2 ft (fi_pow (k := 1) dc dc)) (hk := ?_);rintro jm jn fe rfl;have iw := fe.2;refine go ?_;exact fs ⟨iw, rfl⟩;refine sf ?_;refine sf_ae (V := S (nS (t.2 * 2))) (fun j5 j6 fg j7 => ?_) ?_;refine go ?_;refine clb en1043 (hc := nMul_ok rfl lit2 ft (fi_pow (k := 1) dc dc) f2 (ht.ext (xt e8 fg))) (hk := ?_);rintro j8 j9 fh rfl;have ix := fh.2;refine go ?_;exact fs ⟨ix, rfl⟩;refine sf ?_;intro ki kj fj km;have e8 := xt e8 fj.2;with_reducible refine l_drop rfl ?_
 refine go ?_;refine cl en1045 (nAdd_ok rfl lit2 fl (ht.ext e8)) ?_;rintro kn ko fk rfl;have e8 := xt e8 fk.2;refine go ?_;refine cl en84 (cmpN rfl rfl f2 fl) ?_;rintro kp kq fm rfl;have e8 := xt e8 fm.2;refine go ?_;exact f_ret1 (t := 4) (v := .bool (decide ((cmpI (((t.2 * 2 : Nat)) : Int) (((l.2 + 2 : Nat)) : Int)) ≤ 0))) rfl e8 (lb_2 bb en) rfl;refine c_an 13 ?_;refine sf ?_;refine sf_ae (V := .int .i64 (cmpI (((t.2 : Nat)) : Int) (((2 : Nat)) : Int))) (fun ld lf gw lg => ?_) ?_;refine go ?_;refine clb en84 (hc := cmpN rfl lit2 ft (fi_pow (k := 1) dc dc)) (hk := ?_);rintro lh li fo rfl;have iy := fo.2;refine go ?_;exact fs ⟨iy, rfl⟩;refine sf ?_;intro ml mm fp mo;have e8 := xt e8 fp.2;with_reducible refine l_drop rfl ?_
 refine go ?_;exact f_ret1 (t := 4) (v := .bool (false)) rfl e8 (lb_1 bb en) rfl;refine c_an 13 ?_;refine sf ?_;intro ot ou fq ow;have e8 := xt e8 fq.2;with_reducible refine l_drop rfl ?_
 refine go ?_;exact f_ret1 (t := 4) (v := .bool (false)) rfl e8 ((congrArg Value.bool bb).symm.trans (lb_0 bb)) rfl
theorem cArr {P : Program} {f : FuncId} {vs : List Value} {lb : Array Value} {w : World} {R : Ending → World → Prop} (h : Calls P f (vs.toArray ++ lb) w R) : Calls P f (vs ++ lb.toList).toArray w R := by rw [show (vs ++ lb.toList).toArray = vs.toArray ++ lb from Array.toList_inj.1 (by simp)]; exact h
theorem terms_iter {T : Nat → N2} {m gn b1 b2 : Nat} {lbn : Array Value} {bs : List Nat} {w0 w : World} (E : Ext w0 w) (h1 : Blk w0 b1 56 #[S (nS (T 0).1), S (nS (T 0).2)]) (h2 : Blk w0 b2 104 #[fv gn lbn]) (hbs : ∀ b ∈ bs, w0.heap.size ≤ b ∧ b < w.heap.size) (hen : Enters Tryz.prog gn)
    (hm : m < 100000) (hn : ∀ k < m, ∀ W, Ext w0 W → Calls Tryz.prog gn (#[vN (T k), .int .i64 ((k + 1 : Nat) : Int)] ++ lbn) W (Ret W fun v _ => v = vN (T (k + 1)))) :
    IterM Tryz.prog 113 [.pointer (some ⟨b1, 0, none⟩), .pointer (some ⟨b2, 0, none⟩)] (fun k => [vN (T k)]) bs (fun W => Ext w0 W) (m + 1) w := by
 intro l J Jx W hW hJ0 hJx0 hM hY h0;have E := xt E hW;have zE := bz E;have hbw := bt h1;have hbw2 := bt h2;have h1 := be E h1;have h2 : Blk W b2 104 #[.func (.func gn) #[] lbn] := be E h2;have hw0 := bz hW;obtain ⟨hW0, hWe⟩ : ∃ n, n = W.heap.size := ⟨_, rfl⟩;refine iter_args ?_;have zW := bz hW;refine f_inI Tryz.func113 rfl ?_;refine go ?_;have gp := bt h1;have gq := bt h2;refine c_an 3 ?_;refine sf_ap (fun gu gv fp gw => by have h1 := be fp h1;have h0 := (hJ0 _).ext fp h0;refine go ?_;exact finp) ?_;refine sf_ah (fun v wz => ∃ b : Nat, v = .pointer (some ⟨b, 0, none⟩) ∧ W.heap.size ≤ b ∧ Blk wz b 56 #[S ([]), S ([])]) (hs := fun _ _ _ k ⟨b, e, l, h⟩ => ⟨b, e, l, h.ext k⟩) (fun gy gz fj g6 => ?_) ?_;have h0 := (hJ0 _).ext fj h0;refine al inf1056 (fun g7 fk gg => ?_);have h0 := (hJ0 _).ext fk.2 h0;have gh := fk.2;refine go ?_;exact fs ⟨gh, ⟨_, rfl, (by have := bz fj; omega), gg⟩⟩;refine sf_ap (fun g8 g9 fq ia => by have h0 := (hJ0 _).ext fq h0;refine go ?_;exact finp) ?_;refine sf ?_;intro ic ie fm gi;have h1 := be fm.2 h1;have h2 := be fm.2 h2;have h0 := (hJ0 _).ext fm.2 h0;have E := xt E fm.2;obtain ⟨fw, f6, ig, f7⟩ := (gi 1 5 rfl rfl);have ii := bt f7;refine SA f7 (fun ij en gj => ?_);have h1 := pb en h1;have h2 := pb en h2;have h0 := (hJ0 _).put en om h0;have E := plw en E;have ik := psz en;refine go ?_;refine c_lp [(4, 5), (7, 16)] (fun kk e W => ∃ k : Nat, ∃ bq : Nat, (m + 1 - k = kk) ∧ (e 4 = .int .i64 (((k + 1 : Nat) : Int))) ∧ (e 5 = .pointer (some ⟨bq, 0, none⟩)) ∧ (hW0 ≤ bq) ∧ (Ext w0 W) ∧ (Blk W (b1) 56 #[S (nS ((T 0).1)), S (nS ((T 0).2))]) ∧ (Blk W (b2) 104 #[.func (.func gn) #[] lbn]) ∧ (Blk W (bq) 56 #[S (nS ((T k).1)), S (nS ((T k).2))]) ∧ (J k W)) (m + 1 - (0)) ⟨0, fw, rfl, rfl, f6, om, E, h1, h2, gj, h0⟩ ?_
 rintro il im gk ⟨k, bq, rfl, f8, fo, q2, ac, h1, h2, hbt, q1⟩;have io := bz ac;have hkM := hM _ _ q1;have zbt := bt hbt;refine go ?_;refine l_op (k_yield (l := l) (vs := [vN (T k)]) rfl (cons_eq rfl rfl) (hY k gk q1) ?_);rintro cc ip hcc;obtain ⟨q, rfl, hj1, hj2⟩ := yield_cases hcc;show wpListIn _ _ _ _ _ _ _ _;refine go ?_;refine c_split (q := q) rfl (fun gc => ?_) (fun gc => ?_);obtain ⟨hJ, hC, hK⟩ := hj1 gc;have h1 := hC.blk (fun h => by have := hbs _ h; omega) h1;have h2 := hC.blk (fun h => by have := hbs _ h; omega) h2;have hbt := hC.blk (fun h => by have := hbs _ h; omega) hbt;have ac := hK ac;have zC := hC.size;have hkm := hM _ _ hJ;have iq := bz ac;refine go ?_;refine l_op (clV (vs := [.agg #[S (nS ((T k).1)), S (nS ((T k).2))], .int .i64 (((k + 1 : Nat)) : Int)]) (lb := lbn.toList) hen rfl rfl (cArr (hn k om _ ac)) ?_);rintro ir iu e8 rfl;have h1 := be e8.2 h1;have h2 := be e8.2 h2;have hbt := be e8.2 hbt;have hJ := (hJ0 _).ext e8.2 hJ;have ac := xt ac e8.2;refine SA hbt (fun gd fe fg => ?_);have h1 := pb fe h1;have h2 := pb fe h2;have hJ := (hJ0 _).put fe om hJ;have ac := plw fe ac;have iv := psz fe;refine go ?_;refine al inf1056 (fun iw fh gl => ?_);have h1 := be fh.2 h1;have h2 := be fh.2 h2;have fg := be fh.2 fg;have hJ := (hJ0 _).ext fh.2 hJ;have ac := xt ac fh.2;refine SA gl (fun ix bb gm => ?_);have h1 := pb bb h1;have h2 := pb bb h2
 have fg := pb bb fg;have hJ := (hJ0 _).put bb om hJ;have ac := plw bb ac;have iy := psz bb;refine go ?_;refine adi ?_;refine go ?_;exact lend ⟨k + 1, gd.heap.size, rfl, rfl, rfl, om, ac, h1, h2, gm, hJ⟩;refine go ?_;exact f_end0I rfl fun v => ⟨⟨v, rfl⟩, _, hj2 (by assumption)⟩
end Go.Proofs.YteojhdahhaodoaaGreatDoor
