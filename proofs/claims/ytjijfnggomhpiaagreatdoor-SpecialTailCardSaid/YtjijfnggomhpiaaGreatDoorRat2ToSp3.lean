/- Part of the proof of a statement about the special functions. -/
import Derived.Test.YtjijfnggomhpiaaGreatDoorInt11ToRat1
import Derived.Test.YtjijfnggomhpiaaGreatDoorEngSToEngQ
import Derived.Test.YtjijfnggomhpiaaGreatDoorEngGToInt1
set_option linter.all false
namespace Go.Proofs.YtjijfnggomhpiaaGreatDoor
set_option maxRecDepth 100000
open Go Go.Eng Go.RowKit
attribute [local irreducible] wpListIn Code.wpIn Oper.wpIn Exit.then Exit.inBlock Exit.noGoto
set_option maxHeartbeats 40000000
def cellsR (l : List R) : List Value := l.flatMap fun a => [S a.1, S a.2]
def rAt (l : List R) (i : Nat) : R := l.getD i ([], [])
theorem cellsR_get : ∀ {l : List R} {i : Nat}, i < l.length → (cellsR l)[i * 2]? = some (S (rAt l i).1) ∧ (cellsR l)[i * 2 + 1]? = some (S (rAt l i).2)
  | a :: t, 0, _ => by simp [cellsR, rAt]
  | a :: t, i + 1, h => by
    have ih := cellsR_get (l := t) (i := i) (by simpa using h)
    rw [show (i + 1) * 2 = i * 2 + 2 by omega, show i * 2 + 2 + 1 = i * 2 + 1 + 2 by omega]
    simpa [cellsR, rAt] using ih
theorem rw_pair {w : World} {lo i : Nat} {A : Option Addr} {l : List R} (h : Rw w lo A (cellsR l)) (hi : i < l.length) : ∃ b o, A = some ⟨b, o, none⟩ ∧ ∀ j u, [S (rAt l i).1, S (rAt l i).2][j]? = some u → w.cell? ⟨b, o + i * 2 + j, none⟩ = some u := by
  obtain ⟨h1, h2⟩ := cellsR_get hi
  obtain ⟨b, o, hA, hc1⟩ := h.cells _ _ h1
  obtain ⟨b', o', hA', hc2⟩ := h.cells _ _ h2
  rw [hA] at hA'; cases hA'
  refine ⟨b, o, hA, fun j u hu => ?_⟩
  match j, hu with
  | 0, hu => simp at hu; subst hu; simpa using hc1
  | 1, hu => simp at hu; subst hu; simpa [Nat.add_assoc] using hc2
def ckB (bad : Bool) (l : List R) : Bool := bad || l.any fun a => !okR a
theorem ck_step {bad : Bool} {l : List R} {i : Nat} (hi : i < l.length) : ckB bad (l.take (i + 1)) = (ckB bad (l.take i) || !okR (rAt l i)) := by
  have : l.take (i + 1) = l.take i ++ [rAt l i] := by
    rw [List.take_succ_eq_append_getElem hi]; simp [rAt, hi]
  rw [this]; simp [ckB, Bool.or_assoc]
theorem ck_t {bad : Bool} {l : List R} {i : Nat} (hi : i < l.length) (h : ckB bad (l.take i) = true) : ckB bad (l.take (i + 1)) = true := by rw [ck_step hi, h]; rfl
theorem ck_f {bad : Bool} {l : List R} {i : Nat} (hi : i < l.length) (h : ckB bad (l.take i) = false) : ckB bad (l.take (i + 1)) = !okR ((rAt l i).1, (rAt l i).2) := by rw [ck_step hi, h]; rfl
theorem cmpS_zero {d : List UInt8} (h : isInt d = true) : cmpS d [48] = cmpI (valZ d) 0 := by unfold cmpS; rw [if_pos (by rw [h, isInt_zero]; rfl), valZ_zero]
theorem cmpI_neg {x y : Int} : cmpI x y < 0 ↔ x < y := by
  unfold cmpI; split
  · simp [*]
  · split <;> simp [*]
theorem cmpI_nonpos {x y : Int} : cmpI x y ≤ 0 ↔ x ≤ y := by
  unfold cmpI; split
  · simp; omega
  · split <;> simp <;> omega
theorem subI_zero {n : List UInt8} (h : isInt n = true) : subI [48] n = some (showI (-valZ n)) := by
  rw [subI_ok (by rw [isInt_zero, h]; rfl), valZ_zero]
  unfold outI
  have hf : fits (0 - valZ n) = true := by
    have := fits_val h
    unfold fits at *
    rw [decide_eq_true_eq] at *
    omega
  rw [if_pos hf, Int.zero_sub]
theorem isInt_neg {n : List UInt8} (h : isInt n = true) : isInt (showI (-valZ n)) = true := by
  refine isInt_showI ?_
  have := fits_val h
  unfold fits at *
  rw [decide_eq_true_eq] at *
  omega
theorem fits_le {a b : Int} (h : fits b = true) (hl : a.natAbs ≤ b.natAbs) : fits a = true := by
  unfold fits at *
  rw [decide_eq_true_eq] at *
  exact Nat.lt_of_le_of_lt hl h
theorem ediv_abs_le (a : Int) (b : Nat) (hb : 0 < b) (hd : (b : Int) ∣ a) : (a / (b : Int)).natAbs ≤ a.natAbs := by
  obtain ⟨c, rfl⟩ := hd
  rw [Int.mul_ediv_cancel_left _ om, Int.natAbs_mul]
  exact Nat.le_mul_of_pos_left _ (by simpa using hb)
theorem redT_spec {n d : List UInt8} (hn : isInt n = true) (hd : isInt d = true) (h0 : valZ d ≠ 0) :
    redT false n d = some (showI (valZ n / ((Int.gcd (valZ n) (valZ d) : Nat) : Int)), showI (valZ d / ((Int.gcd (valZ n) (valZ d) : Nat) : Int))) := by
  have hg0 : 0 < Int.gcd (valZ n) (valZ d) := Int.gcd_pos_of_ne_zero_right _ h0
  have hgd : ((Int.gcd (valZ n) (valZ d) : Nat) : Int) ∣ valZ d := Int.gcd_dvd_right ..
  have hgn : ((Int.gcd (valZ n) (valZ d) : Nat) : Int) ∣ valZ n := Int.gcd_dvd_left ..
  have hgf : fits ((Int.gcd (valZ n) (valZ d) : Nat) : Int) = true := fits_le (fits_val hd) (by
    have := Nat.le_of_dvd om (Int.natAbs_dvd_natAbs.2 hgd)
    simpa using this)
  have hG : gcdI n d = some (showI ((Int.gcd (valZ n) (valZ d) : Nat) : Int)) := by
    unfold gcdI; rw [if_pos (by rw [hn, hd]; rfl)]; unfold outI; rw [if_pos hgf]
  generalize hg : Int.gcd (valZ n) (valZ d) = g at *
  have hgi := isInt_showI hgf
  have hdiv : ∀ {x : List UInt8}, isInt x = true → (g : Int) ∣ valZ x → (divI x (showI (g : Int))).map (·.1) = some (showI (valZ x / (g : Int))) := by
    intro x hx hdx
    rw [divI_ok (by rw [hx, hgi]; rfl) (by rw [body_showI, valN_showN]; simpa using hg0), valZ_showI]
    unfold outI
    rw [if_pos (fits_le (fits_val hx) (ediv_abs_le _ _ hg0 hdx))]
    rfl
  unfold redT
  rw [hG]
  simp only [dS, Bool.false_eq_true, if_false, rS, Option.getD_some]
  rw [hdiv hn hgn, hdiv hd hgd]
  rfl
theorem redW_spec {n d : List UInt8} (hn : isInt n = true) (hd : isInt d = true) : redW false n d = makeR (valZ n) (valZ d) := by
  unfold makeR
  by_cases h0 : valZ d = 0
  · rw [if_pos h0, redW_2 ((valZ_eq_zero hd).1 h0)]
  · have hd0 : ¬ d = [48] := fun e => h0 ((valZ_eq_zero hd).2 e)
    rw [if_neg h0]
    unfold redN redD
    by_cases hs : valZ d < 0
    · rw [redW_n rfl hd0 (by rw [cmpS_zero hd]; exact cmpI_neg.2 hs), subI_zero hn, subI_zero hd]
      simp only [dB, dS, Bool.false_or, Option.isNone_some, Bool.false_eq_true, if_false, rS, Option.getD_some]
      rw [redT_spec (isInt_neg hn) (isInt_neg hd) (by rw [valZ_showI]; omega), valZ_showI, valZ_showI, if_pos hs, if_pos hs]
      have : Int.gcd (-valZ n) (-valZ d) = Int.gcd (valZ n) (valZ d) := by rw [Int.gcd_neg, Int.neg_gcd]
      rw [this]
    · rw [redW_p rfl hd0 (by rw [cmpS_zero hd]; exact fun h => hs (cmpI_neg.1 h)), redT_spec hn hd h0, if_neg hs, if_neg hs]
theorem redW_bad (n d : List UInt8) : redW true n d = none := redW_1 rfl
theorem ck_two (a b : R) : ckB false [a, b] = !(okR a && okR b) := by simp [ckB]
theorem okR_1 {a : R} (h : okR a = true) : isInt a.1 = true := by simp only [okR, Bool.and_eq_true] at h; exact h.1.1.1
theorem okR_2 {a : R} (h : okR a = true) : isInt a.2 = true := by simp only [okR, Bool.and_eq_true] at h; exact h.1.1.2
theorem outI_isNone (n : Int) : (outI n).isNone = !fits n := by unfold outI; cases fits n <;> rfl
theorem outI_rS {n : Int} (h : fits n = true) : rS (outI n) = showI n := by unfold outI; rw [if_pos h]; rfl
theorem two_spec (okk : Bool) (n d : Int) {on od : Option (List UInt8)} (hn : okk = true → on = outI n) (hd : okk = true → od = outI d) :
    redW (dB (dB (!okk) on) od) (dS (!okk) on) (dS (dB (!okk) on) od) = if okk then bothF n d else none := by
  cases okk with
  | false => simp only [Bool.not_false, dB, Bool.true_or, redW_bad]; rfl
  | true =>
    rw [hn rfl, hd rfl]
    unfold bothF
    simp only [Bool.not_true, dB, dS, Bool.false_or, Bool.false_eq_true, if_false, outI_isNone, if_true]
    cases h1 : fits n with
    | false => simp only [Bool.not_false, Bool.true_or, redW_bad, Bool.false_and]; rfl
    | true =>
      cases h2 : fits d with
      | false => simp only [Bool.not_false, Bool.or_true, redW_bad, Bool.and_false]; rfl
      | true =>
        simp only [Bool.not_true, Bool.or_false, Bool.false_eq_true, if_false, Bool.and_self, if_true]
        rw [outI_rS h1, outI_rS h2, redW_spec (isInt_showI h1) (isInt_showI h2), valZ_showI, valZ_showI]
theorem div_spec (x1 x2 y1 y2 : List UInt8) : resR (redW (dB (dB (ckB false [(x1, x2), (y1, y2)]) (mulI x1 y2)) (mulI x2 y1)) (dS (ckB false [(x1, x2), (y1, y2)]) (mulI x1 y2)) (dS (dB (ckB false [(x1, x2), (y1, y2)]) (mulI x1 y2)) (mulI x2 y1))) = resR (divR (x1, x2) (y1, y2)) := by
  rw [ck_two, two_spec (okR (x1, x2) && okR (y1, y2)) (valZ x1 * valZ y2) (valZ x2 * valZ y1) (fun h => mulI_ok (by rw [okR_1 (and_l h), okR_2 (and_r h)]; rfl)) (fun h => mulI_ok (by rw [okR_2 (and_l h), okR_1 (and_r h)]; rfl))]
  rfl
theorem four_spec (okk : Bool) (p q s d : Int) {op oq od : Option (List UInt8)} {os : List UInt8 → List UInt8 → Option (List UInt8)} (hp : okk = true → op = outI p) (hq : okk = true → oq = outI q) (hd : okk = true → od = outI d)
    (hs : fits p = true → fits q = true → os (showI p) (showI q) = outI s) :
    redW (dB (dB (dB (dB (!okk) op) oq) (os (dS (!okk) op) (dS (dB (!okk) op) oq))) od) (dS (dB (dB (!okk) op) oq) (os (dS (!okk) op) (dS (dB (!okk) op) oq))) (dS (dB (dB (dB (!okk) op) oq) (os (dS (!okk) op) (dS (dB (!okk) op) oq))) od)
      = if okk then (if fits p && fits q then bothF s d else none) else none := by
  cases okk with
  | false => simp only [Bool.not_false, dB, Bool.true_or, redW_bad]; rfl
  | true =>
    rw [hp rfl, hq rfl, hd rfl]
    cases h1 : fits p with
    | false => simp only [Bool.not_true, dB, Bool.false_or, outI_isNone, h1, Bool.not_false, Bool.true_or, redW_bad, Bool.false_and]; rfl
    | true =>
      cases h2 : fits q with
      | false => simp only [Bool.not_true, dB, Bool.false_or, outI_isNone, h1, h2, Bool.not_false, Bool.true_or, Bool.or_true, redW_bad, Bool.and_false]; rfl
      | true =>
        have e1 : dS (!true) (outI p) = showI p := by rw [← outI_rS h1]; rfl
        have e2 : dB (!true) (outI p) = false := by unfold dB; rw [outI_isNone, h1]; rfl
        have e3 : dS false (outI q) = showI q := by rw [← outI_rS h2]; rfl
        have e4 : dB false (outI q) = false := by unfold dB; rw [outI_isNone, h2]; rfl
        rw [e2, e4, e1, e3, hs h1 h2]
        have := two_spec true s d (on := outI s) (od := outI d) (fun _ => rfl) (fun _ => rfl)
        simpa using this
def sumW (os : List UInt8 → List UInt8 → Option (List UInt8)) (x1 x2 y1 y2 : List UInt8) (b : Bool) : Option R := redW (dB (dB (dB (dB b (mulI x1 y2)) (mulI y1 x2)) (os (dS b (mulI x1 y2)) (dS (dB b (mulI x1 y2)) (mulI y1 x2)))) (mulI x2 y2)) (dS (dB (dB b (mulI x1 y2)) (mulI y1 x2)) (os (dS b (mulI x1 y2)) (dS (dB b (mulI x1 y2)) (mulI y1 x2)))) (dS (dB (dB (dB b (mulI x1 y2)) (mulI y1 x2)) (os (dS b (mulI x1 y2)) (dS (dB b (mulI x1 y2)) (mulI y1 x2)))) (mulI x2 y2))
theorem add_spec (x1 x2 y1 y2 : List UInt8) : resR (sumW addI x1 x2 y1 y2 (ckB false [(x1, x2), (y1, y2)])) = resR (addR (x1, x2) (y1, y2)) :=
  congrArg resR ((congrArg (sumW addI x1 x2 y1 y2) (ck_two (x1, x2) (y1, y2))).trans
    (four_spec (okR (x1, x2) && okR (y1, y2)) (valZ x1 * valZ y2) (valZ y1 * valZ x2) (valZ x1 * valZ y2 + valZ y1 * valZ x2) (valZ x2 * valZ y2) (fun h => mulI_ok (by rw [okR_1 (and_l h), okR_2 (and_r h)]; rfl)) (fun h => mulI_ok (by rw [okR_2 (and_l h), okR_1 (and_r h)]; rfl)) (fun h => mulI_ok (by rw [okR_2 (and_l h), okR_2 (and_r h)]; rfl))
      (fun h1 h2 => by rw [addI_ok (by rw [isInt_showI h1, isInt_showI h2]; rfl), valZ_showI, valZ_showI])))
theorem sub_spec (x1 x2 y1 y2 : List UInt8) : resR (sumW subI x1 x2 y1 y2 (ckB false [(x1, x2), (y1, y2)])) = resR (subR (x1, x2) (y1, y2)) :=
  congrArg resR ((congrArg (sumW subI x1 x2 y1 y2) (ck_two (x1, x2) (y1, y2))).trans
    (four_spec (okR (x1, x2) && okR (y1, y2)) (valZ x1 * valZ y2) (valZ y1 * valZ x2) (valZ x1 * valZ y2 - valZ y1 * valZ x2) (valZ x2 * valZ y2) (fun h => mulI_ok (by rw [okR_1 (and_l h), okR_2 (and_r h)]; rfl)) (fun h => mulI_ok (by rw [okR_2 (and_l h), okR_1 (and_r h)]; rfl)) (fun h => mulI_ok (by rw [okR_2 (and_l h), okR_2 (and_r h)]; rfl))
      (fun h1 h2 => by rw [subI_ok (by rw [isInt_showI h1, isInt_showI h2]; rfl), valZ_showI, valZ_showI])))
theorem check_ok {b : Nat} {bad : Bool} {w : World} (hB : Blk w b 61 #[.bool bad]) (ht : Tb w) {A : Option Addr} {n c lo : Nat} {rs : List R} (hr : Rw w lo A (cellsR rs)) (hn : rs.length = n) (hnb : n ≤ 1000000) (hAb : ∀ ad, A = some ad → ad.block ≠ b) :
    Calls Tryz.prog 38 #[.pointer (some ⟨b, 0, none⟩), .slice (A) (n) (c)] w (RetA fun v w' => w.grownBy w' (some b) ∧ Blk w' b 61 #[.bool (ckB bad rs)] ∧ v = .tuple #[]) := by
 have G := World.grownBy.refl w (some b);have hbl := bt hB;have uhr := fun ad e => And.intro (hr.hi ad e) (hAb ad e);refine f_inA Tryz.func38 rfl ?_;refine go ?_;refine c_lp [(5, 5), (8, 24)] (fun kk e W => ∃ i : Nat, (n - i = kk) ∧ (e 8 = .int .i64 i) ∧ (w.grownBy W (some b)) ∧ (i ≤ n) ∧ (True) ∧ (Tb W) ∧ (Rw W lo A (cellsR rs)) ∧ (Blk W (b) 61 #[.bool (ckB bad (rs.take i))])) (n - (0)) ⟨0, rfl, rfl, G, (Nat.zero_le _), trivial, ht, hr, (by simpa [ckB] using hB)⟩ ?_;rintro aop aoq wz ⟨i, rfl, ib, G, hi, aol, ht, hr, hB⟩;have aor := World.grownBy.size G;by_cases hlt : i < n;obtain ⟨bk, o, hA, hcs⟩ := rw_pair hr (i := i) om;refine go ?_;refine l_op (k_indexAddr (i := i) (oo := o + i * 2) U23 sz36 rfl hA ib om rfl ?_);refine l_op (k_loadA (cs := [S (rAt rs i).1, S (rAt rs i).2]) (b := bk) (o := o + i * 2) U36 rfl sz36 rfl hcs ?_);refine al inf36 (fun aos sc aom => ?_);have ht := Tb.ext sc.2 ht;have hr := Rw.ext sc.2 hr;have hB := be sc.2 hB;have G := gb_ext G sc.2;refine SA aom (fun aot kx fy => ?_);have ht := Tb.put kx (aom) dc ht;have hr := Rw.putU kx (fun ad e => by have := uhr ad e; omega) hr;have hB := pb kx hB;have G := gb_putn G kx om;have aou := psz kx;refine go ?_;rcases Bool.eq_false_or_eq_true (ckB bad (rs.take i)) with fx | fx;refine go ?_;refine SO hB (fun aov ly aon => ?_);have ht := Tb.put ly (hB) dc ht;have hr := Rw.putU ly (fun ad e => by have := uhr ad e; omega) hr
 have fy := pb ly fy;have G := gb_put G ly;have aow := psz ly;refine go ?_;refine l_op (k_add (a := (i : Int)) (b := 1) (c := ((i + 1 : Nat) : Int)) ib rfl (by unfold In64; omega) om ?_);refine go ?_;exact lend ⟨i + 1, rfl, rfl, G, om, aol, ht, hr, (by first | (rw [ck_t om (by assumption)]; exact aon) | (rw [ck_f om (by assumption)]; exact aon))⟩;refine go ?_;refine cl en82 (rValid_ok ((rAt rs i).1) ((rAt rs i).2) _ ht) ?_;rintro aox aoy ns rfl;have ht := Tb.ext ns.2 ht;have hr := Rw.ext ns.2 hr;have hB := be ns.2 hB;have fy := be ns.2 fy;have G := gb_ext G ns.2;refine go ?_;refine SO hB (fun aoz r8 aoo => ?_);have ht := Tb.put r8 (hB) dc ht;have hr := Rw.putU r8 (fun ad e => by have := uhr ad e; omega) hr;have fy := pb r8 fy;have G := gb_put G r8;have ao0 := psz r8;refine go ?_;refine l_op (k_add (a := (i : Int)) (b := 1) (c := ((i + 1 : Nat) : Int)) ib rfl (by unfold In64; omega) om ?_);refine go ?_;exact lend ⟨i + 1, rfl, rfl, G, om, aol, ht, hr, (by first | (rw [ck_t om (by assumption)]; exact aoo) | (rw [ck_f om (by assumption)]; exact aoo))⟩;refine go ?_;refine f_endA (v := .tuple #[]) (res0  rfl ) ⟨G, (by rw [List.take_of_length_le om] at hB; exact hB), rfl⟩
theorem rDiv_ok (x1 x2 y1 y2 : List UInt8) (w : World) (ht : Tb w) :
    Calls Tryz.prog 14 #[.agg #[S (x1), S (x2)], .agg #[S (y1), S (y2)]] w (Ret w fun v w' => v = resR (divR (x1, x2) (y1, y2))) := by
 refine f_in Tryz.func14 rfl ?_;refine go ?_;refine bx (fun aon aos fy => ?_);have ht := Tb.ext aos.2 ht;have fx := aos.2;refine bx (fun aot aor ib => ?_);have ht := Tb.ext aor.2 ht;have fy := be aor.2 fy;have fx := xt fx aor.2;refine al inf36 (fun ly aop kx => ?_);have ht := Tb.ext aop.2 ht;have fy := be aop.2 fy;have ib := be aop.2 ib;have fx := xt fx aop.2;refine go ?_;refine bx (fun aoy aoo aoq => ?_);have ht := Tb.ext aoo.2 ht;have fy := be aoo.2 fy;have ib := be aoo.2 ib;have kx := be aoo.2 kx;have fx := xt fx aoo.2;refine go ?_;refine BS2 (fun ao1 ns ao2 aoz => ?_);have ht := Tb.ext ns ht;have fy := be ns fy;have ib := be ns ib;have kx := be ns kx;have aoq := be ns aoq;have fx := xt fx ns;have ao3 := bz ns;refine l_op (k_callA (vs := [.pointer (some ⟨ly.heap.size, 0, none⟩), .slice (some ⟨aoy.heap.size, 0, none⟩) (2) (2)]) en223 rfl (check_ok (rs := [(x1, x2), (y1, y2)]) aoq ht (Rw.of_own aoz) rfl om (fun ad e => by cases e; simp; omega)) ?_);rintro ao4 ao5 ⟨r8, aou, rfl⟩;have ht := Tb.gr r8 aoq dc ht;have fy := Blk.gr r8 (by simp; omega) fy;have ib := Blk.gr r8 (by simp; omega) ib;have kx := Blk.gr r8 (by simp; omega) kx;have fx := low_gr fx r8 (bz fx) (fun g hgg => by cases hgg; omega);have ao6 := r8.size;refine go ?_;refine l_op (k_callA (vs := [.pointer (some ⟨ly.heap.size, 0, none⟩), S (x1), S (y2)]) en224 rfl (mul_ok aou ht x1 y2) ?_);rintro ao7 ao8 ⟨sc, aov, rfl⟩
 have ht := Tb.gr sc aou dc ht;have fy := Blk.gr sc (by simp; omega) fy;have ib := Blk.gr sc (by simp; omega) ib;have kx := Blk.gr sc (by simp; omega) kx;have fx := low_gr fx sc (bz fx) (fun g hgg => by cases hgg; omega);have ao9 := sc.size;refine go ?_;refine l_op (k_callA (vs := [.pointer (some ⟨ly.heap.size, 0, none⟩), S (x2), S (y1)]) en224 rfl (mul_ok aov ht x2 y1) ?_);rintro apa apb ⟨wz, aow, rfl⟩;have ht := Tb.gr wz aov dc ht;have fy := Blk.gr wz (by simp; omega) fy;have ib := Blk.gr wz (by simp; omega) ib;have kx := Blk.gr wz (by simp; omega) kx;have fx := low_gr fx wz (bz fx) (fun g hgg => by cases hgg; omega);have apc := wz.size;refine l_op (k_callA (vs := [.pointer (some ⟨ly.heap.size, 0, none⟩), S (dS (ckB false [(x1, x2), (y1, y2)]) (mulI x1 y2)), S (dS (dB (ckB false [(x1, x2), (y1, y2)]) (mulI x1 y2)) (mulI x2 y1))]) en225 rfl (red_ok aow ht (dS (ckB false [(x1, x2), (y1, y2)]) (mulI x1 y2)) (dS (dB (ckB false [(x1, x2), (y1, y2)]) (mulI x1 y2)) (mulI x2 y1))) ?_);rintro apd ape ⟨aol, ⟨apf, aox⟩, rfl⟩;have fy := Blk.gr aol (by simp; omega) fy;have ib := Blk.gr aol (by simp; omega) ib;have kx := Blk.gr aol (by simp; omega) kx;have fx := low_gr fx aol (bz fx) (fun g hgg => by cases hgg; omega);have apg := aol.size;refine go ?_;refine SA kx (fun aph aom ao0 => ?_);have fy := pb aom fy;have ib := pb aom ib;have aox := pb aom aox;have fx := plw aom fx;have api := psz aom
 refine go ?_;refine f_out (v := .tuple #[.agg #[S (rN (redW (dB (dB (ckB false [(x1, x2), (y1, y2)]) (mulI x1 y2)) (mulI x2 y1)) (dS (ckB false [(x1, x2), (y1, y2)]) (mulI x1 y2)) (dS (dB (ckB false [(x1, x2), (y1, y2)]) (mulI x1 y2)) (mulI x2 y1)))), S (rD (redW (dB (dB (ckB false [(x1, x2), (y1, y2)]) (mulI x1 y2)) (mulI x2 y1)) (dS (ckB false [(x1, x2), (y1, y2)]) (mulI x1 y2)) (dS (dB (ckB false [(x1, x2), (y1, y2)]) (mulI x1 y2)) (mulI x2 y1))))], .int .i64 (rER (redW (dB (dB (ckB false [(x1, x2), (y1, y2)]) (mulI x1 y2)) (mulI x2 y1)) (dS (ckB false [(x1, x2), (y1, y2)]) (mulI x1 y2)) (dS (dB (ckB false [(x1, x2), (y1, y2)]) (mulI x1 y2)) (mulI x2 y1))))]) (res2 (r1 := .cell 4 25) (r2 := .tmp 5) rfl ?_ ?_) fx (div_spec x1 x2 y1 y2);refine res_cellA (t := 4) (cs := [S (rN (redW (dB (dB (ckB false [(x1, x2), (y1, y2)]) (mulI x1 y2)) (mulI x2 y1)) (dS (ckB false [(x1, x2), (y1, y2)]) (mulI x1 y2)) (dS (dB (ckB false [(x1, x2), (y1, y2)]) (mulI x1 y2)) (mulI x2 y1)))), S (rD (redW (dB (dB (ckB false [(x1, x2), (y1, y2)]) (mulI x1 y2)) (mulI x2 y1)) (dS (ckB false [(x1, x2), (y1, y2)]) (mulI x1 y2)) (dS (dB (ckB false [(x1, x2), (y1, y2)]) (mulI x1 y2)) (mulI x2 y1))))]) (b := aot.heap.size) (o := 0) U36 rfl sz36 ?_ ?_;exact rfl;exact Blk.cells ao0 (i := 0) rfl;exact res_tmp (t := 5) (by exact rfl) _
theorem sum_gen {g0 : Nat} {os : List UInt8 → List UInt8 → Option (List UInt8)} (heg : Enters Tryz.prog g0) (hop : ∀ a b, Op2 g0 a b (os a b)) (x1 x2 y1 y2 : List UInt8) (w : World) (ht : Tb w) :
    Calls Tryz.prog 62 #[.func (.func g0) #[] #[], .agg #[S (x1), S (x2)], .agg #[S (y1), S (y2)]] w (Ret w fun v w' => v = resR (sumW os x1 x2 y1 y2 (ckB false [(x1, x2), (y1, y2)]))) := by
 refine f_in Tryz.func62 rfl ?_;refine go ?_;refine bx (fun r8 ao5 fy => ?_);have ht := Tb.ext ao5.2 ht;have fx := ao5.2;refine bx (fun aou ao0 ib => ?_);have ht := Tb.ext ao0.2 ht;have fy := be ao0.2 fy;have fx := xt fx ao0.2;refine al inf36 (fun ns aov kx => ?_);have ht := Tb.ext aov.2 ht;have fy := be aov.2 fy;have ib := be aov.2 ib;have fx := xt fx aov.2;refine go ?_;refine bx (fun apb aos aow => ?_);have ht := Tb.ext aos.2 ht;have fy := be aos.2 fy;have ib := be aos.2 ib;have kx := be aos.2 kx;have fx := xt fx aos.2;refine go ?_;refine BS2 (fun aq3 sc aq4 apc => ?_);have ht := Tb.ext sc ht;have fy := be sc fy;have ib := be sc ib;have kx := be sc kx;have aow := be sc aow;have fx := xt fx sc;have aq5 := bz sc;refine l_op (k_callA (vs := [.pointer (some ⟨ns.heap.size, 0, none⟩), .slice (some ⟨apb.heap.size, 0, none⟩) (2) (2)]) en223 rfl (check_ok (rs := [(x1, x2), (y1, y2)]) aow ht (Rw.of_own apc) rfl om (fun ad e => by cases e; simp; omega)) ?_);rintro aq6 ao6 ⟨aol, ly, rfl⟩;have ht := Tb.gr aol aow dc ht;have fy := Blk.gr aol (by simp; omega) fy;have ib := Blk.gr aol (by simp; omega) ib;have kx := Blk.gr aol (by simp; omega) kx;have fx := low_gr fx aol (bz fx) (fun g hgg => by cases hgg; omega);have aq7 := aol.size;refine go ?_;have wz := Ext.drew ao6;refine c_anyC hmix 15 (fun _ _ => True) (fun _ => trivial) (fun _ _ _ _ _ => trivial) [fun v _ => v = .pointer (some ⟨ns.heap.size, 0, none⟩), fun v _ => v = .func (.func g0) #[] #[], fun v _ => v = .pointer (some ⟨ns.heap.size, 0, none⟩), fun v _ => v = .pointer (some ⟨w.heap.size, 0, none⟩), fun v _ => v = S (x1), fun v _ => v = .pointer (some ⟨r8.heap.size, 1, none⟩), fun v _ => v = S (y2), fun v _ => v = S (dS (ckB false [(x1, x2), (y1, y2)]) (mulI x1 y2)), fun v _ => v = .pointer (some ⟨ns.heap.size, 0, none⟩), fun v _ => v = .pointer (some ⟨r8.heap.size, 0, none⟩), fun v _ => v = S (y1), fun v _ => v = .pointer (some ⟨w.heap.size, 1, none⟩), fun v _ => v = S (x2), fun v _ => v = S (dS (dB (ckB false [(x1, x2), (y1, y2)]) (mulI x1 y2)) (mulI y1 x2)), fun v _ => v = S (dS (dB (dB (ckB false [(x1, x2), (y1, y2)]) (mulI x1 y2)) (mulI y1 x2)) (os (dS (ckB false [(x1, x2), (y1, y2)]) (mulI x1 y2)) (dS (dB (ckB false [(x1, x2), (y1, y2)]) (mulI x1 y2)) (mulI y1 x2))))] ⟨fun _ _ _ _ h => h, fun _ _ _ _ h => h, fun _ _ _ _ h => h, fun _ _ _ _ h => h, fun _ _ _ _ h => h, fun _ _ _ _ h => h, fun _ _ _ _ h => h, fun _ _ _ _ h => h, fun _ _ _ _ h => h, fun _ _ _ _ h => h, fun _ _ _ _ h => h, fun _ _ _ _ h => h, fun _ _ _ _ h => h, fun _ _ _ _ h => h, fun _ _ _ _ h => h, trivial⟩ (by kernel_rfl) (by kernel_rfl) (by kernel_rfl) [7, 13, 14] (by kernel_rfl) (by kernel_rfl) (by kernel_rfl) (fun k W => (Ext w W) ∧ (ao6.heap.size ≤ W.heap.size) ∧ (Tb W) ∧ (Blk W (w.heap.size) 25 #[S (x1), S (x2)]) ∧ (Blk W (r8.heap.size) 25 #[S (y1), S (y2)]) ∧ (Blk W (aou.heap.size) 25 #[S ([]), S ([])]) ∧ (Blk W (ns.heap.size) 61 #[.bool (([ckB false [(x1, x2), (y1, y2)], dB (ckB false [(x1, x2), (y1, y2)]) (mulI x1 y2), dB (dB (ckB false [(x1, x2), (y1, y2)]) (mulI x1 y2)) (mulI y1 x2), dB (dB (dB (ckB false [(x1, x2), (y1, y2)]) (mulI x1 y2)) (mulI y1 x2)) (os (dS (ckB false [(x1, x2), (y1, y2)]) (mulI x1 y2)) (dS (dB (ckB false [(x1, x2), (y1, y2)]) (mulI x1 y2)) (mulI y1 x2)))] : List Bool).getD k false)])) ⟨(xt fx wz), (bz wz), (Tb.ext wz ht), (be wz fy), (be wz ib), (be wz kx), (be wz ly)⟩ ?_ ?_
 refine ⟨fun aq8 aq9 ara apd arb _ ape arc => ?_, ?_⟩;obtain ⟨aq8, rfl⟩ := ovE ape;obtain ⟨fx, zst, ht, fy, ib, kx, ly⟩ := apd;have ard := bz fx;refine go ?_;exact ⟨rfl, _, (act_put _ _ _ _ _).symm, trivial, rfl, ⟨fx, om, ht, fy, ib, kx, ly⟩⟩;refine ⟨fun arf arh ari apf arj _ apg ark => ?_, ?_⟩;obtain ⟨arf, rfl⟩ := ovE apg;obtain ⟨fx, zst, ht, fy, ib, kx, ly⟩ := apf;have arl := bz fx;refine go ?_;exact ⟨rfl, _, (act_put _ _ _ _ _).symm, trivial, rfl, ⟨fx, om, ht, fy, ib, kx, ly⟩⟩;refine ⟨fun arm arn aro aph arp _ api arq => ?_, ?_⟩;obtain ⟨arm, rfl⟩ := ovE api;obtain ⟨fx, zst, ht, fy, ib, kx, ly⟩ := aph;have arr := bz fx;refine go ?_;exact ⟨rfl, _, (act_put _ _ _ _ _).symm, trivial, rfl, ⟨fx, om, ht, fy, ib, kx, ly⟩⟩;refine ⟨fun ars art aru apj arv _ apk arw => ?_, ?_⟩;obtain ⟨ars, rfl⟩ := ovE apk;obtain ⟨fx, zst, ht, fy, ib, kx, ly⟩ := apj;have arx := bz fx;refine go ?_;exact ⟨rfl, _, (act_put _ _ _ _ _).symm, trivial, rfl, ⟨fx, om, ht, fy, ib, kx, ly⟩⟩;refine ⟨fun apl ary arz apm ar0 _ ar1 apn => ?_, ?_⟩;obtain ⟨apl, rfl⟩ := ovE ar1;obtain ⟨fx, zst, ht, fy, ib, kx, ly⟩ := apm;have ar2 := bz fx;have apo := zpv (apn 3 20 rfl rfl);refine go ?_;exact ⟨rfl, _, (act_put _ _ _ _ _).symm, trivial, rfl, ⟨fx, om, ht, fy, ib, kx, ly⟩⟩;refine ⟨fun ar3 ar4 ar5 apq ar6 _ apr ar7 => ?_, ?_⟩;obtain ⟨ar3, rfl⟩ := ovE apr;obtain ⟨fx, zst, ht, fy, ib, kx, ly⟩ := apq;have ar8 := bz fx;refine go ?_;exact ⟨rfl, _, (act_put _ _ _ _ _).symm, trivial, rfl, ⟨fx, om, ht, fy, ib, kx, ly⟩⟩
 refine ⟨fun aps ar9 asa apt asb _ asc apu => ?_, ?_⟩;obtain ⟨aps, rfl⟩ := ovE asc;obtain ⟨fx, zst, ht, fy, ib, kx, ly⟩ := apt;have asd := bz fx;have apv := zpv (apu 5 22 rfl rfl);refine go ?_;exact ⟨rfl, _, (act_put _ _ _ _ _).symm, trivial, rfl, ⟨fx, om, ht, fy, ib, kx, ly⟩⟩;refine ⟨fun ao1 apw ase apx apy _ asf ao2 => ?_, ?_⟩;obtain ⟨ao1, rfl⟩ := ovE asf;obtain ⟨fx, zst, ht, fy, ib, kx, ly⟩ := apx;obtain rfl := apy 0 rfl;have ly : Blk apw (ns.heap.size) 61 #[.bool (ckB false [(x1, x2), (y1, y2)])] := ly;have asg := bz fx;have apz := zpv (ao2 2 19 rfl rfl);have ap0 := zpv (ao2 4 21 rfl rfl);have ap1 := zpv (ao2 6 23 rfl rfl);refine l_op (k_callA (vs := [.pointer (some ⟨ns.heap.size, 0, none⟩), S (x1), S (y2)]) en224 (cons_eq apz (cons_eq ap0 (cons_eq ap1 rfl))) (mul_ok ly ht x1 y2) ?_);rintro ash asi ⟨aom, ap2, rfl⟩;have ht := Tb.gr aom ly dc ht;have fy := Blk.gr aom (by simp; omega) fy;have ib := Blk.gr aom (by simp; omega) ib;have kx := Blk.gr aom (by simp; omega) kx;have fx := low_gr fx aom (bz fx) (fun g hgg => by cases hgg; omega);have asj := aom.size;refine go ?_;exact ⟨rfl, _, (act_put _ _ _ _ _).symm, trivial, rfl, ⟨fx, om, ht, fy, ib, kx, ap2⟩⟩;refine ⟨fun ask asl asm ap3 aso _ ap4 asp => ?_, ?_⟩;obtain ⟨ask, rfl⟩ := ovE ap4;obtain ⟨fx, zst, ht, fy, ib, kx, ly⟩ := ap3;have asq := bz fx;refine go ?_;exact ⟨rfl, _, (act_put _ _ _ _ _).symm, trivial, rfl, ⟨fx, om, ht, fy, ib, kx, ly⟩⟩;refine ⟨fun asr ass ast ap5 asu _ ap6 asv => ?_, ?_⟩
 obtain ⟨asr, rfl⟩ := ovE ap6;obtain ⟨fx, zst, ht, fy, ib, kx, ly⟩ := ap5;have asw := bz fx;refine go ?_;exact ⟨rfl, _, (act_put _ _ _ _ _).symm, trivial, rfl, ⟨fx, om, ht, fy, ib, kx, ly⟩⟩;refine ⟨fun ap7 asx asy ap8 asz _ as0 ap9 => ?_, ?_⟩;obtain ⟨ap7, rfl⟩ := ovE as0;obtain ⟨fx, zst, ht, fy, ib, kx, ly⟩ := ap8;have as1 := bz fx;have aqa := zpv (ap9 9 26 rfl rfl);refine go ?_;exact ⟨rfl, _, (act_put _ _ _ _ _).symm, trivial, rfl, ⟨fx, om, ht, fy, ib, kx, ly⟩⟩;refine ⟨fun as2 as3 as4 aqb as5 _ aqc as6 => ?_, ?_⟩;obtain ⟨as2, rfl⟩ := ovE aqc;obtain ⟨fx, zst, ht, fy, ib, kx, ly⟩ := aqb;have as7 := bz fx;refine go ?_;exact ⟨rfl, _, (act_put _ _ _ _ _).symm, trivial, rfl, ⟨fx, om, ht, fy, ib, kx, ly⟩⟩;refine ⟨fun aqd as8 as9 aqe ata _ atb aqf => ?_, ?_⟩;obtain ⟨aqd, rfl⟩ := ovE atb;obtain ⟨fx, zst, ht, fy, ib, kx, ly⟩ := aqe;have atc := bz fx;have aqg := zpv (aqf 11 28 rfl rfl);refine go ?_;exact ⟨rfl, _, (act_put _ _ _ _ _).symm, trivial, rfl, ⟨fx, om, ht, fy, ib, kx, ly⟩⟩;refine ⟨fun ao3 aqh atd aqi aqj _ ate ao4 => ?_, ?_⟩;obtain ⟨ao3, rfl⟩ := ovE ate;obtain ⟨fx, zst, ht, fy, ib, kx, ly⟩ := aqi;obtain rfl := aqj 1 rfl;have ly : Blk aqh (ns.heap.size) 61 #[.bool (dB (ckB false [(x1, x2), (y1, y2)]) (mulI x1 y2))] := ly;have atf := bz fx;have aqk := zpv (ao4 8 25 rfl rfl);have aql := zpv (ao4 10 27 rfl rfl);have aqm := zpv (ao4 12 29 rfl rfl);refine l_op (k_callA (vs := [.pointer (some ⟨ns.heap.size, 0, none⟩), S (y1), S (x2)]) en224 (cons_eq aqk (cons_eq aql (cons_eq aqm rfl))) (mul_ok ly ht y1 x2) ?_)
 rintro atg ath ⟨aon, aqn, rfl⟩;have ht := Tb.gr aon ly dc ht;have fy := Blk.gr aon (by simp; omega) fy;have ib := Blk.gr aon (by simp; omega) ib;have kx := Blk.gr aon (by simp; omega) kx;have fx := low_gr fx aon (bz fx) (fun g hgg => by cases hgg; omega);have ati := aon.size;refine go ?_;exact ⟨rfl, _, (act_put _ _ _ _ _).symm, trivial, rfl, ⟨fx, om, ht, fy, ib, kx, aqn⟩⟩;refine ⟨fun aox aqo atj aqp aqq _ atk aoy => ?_, ?_⟩;obtain ⟨aox, rfl⟩ := ovE atk;obtain ⟨fx, zst, ht, fy, ib, kx, ly⟩ := aqp;obtain rfl := aqq 2 rfl;have ly : Blk aqo (ns.heap.size) 61 #[.bool (dB (dB (ckB false [(x1, x2), (y1, y2)]) (mulI x1 y2)) (mulI y1 x2))] := ly;have atl := bz fx;have aqr := zpv (aoy 0 17 rfl rfl);have aqs := zpv (aoy 1 18 rfl rfl);have aqt := zpv (aoy 7 24 rfl rfl);have aqu := zpv (aoy 13 30 rfl rfl);refine l_op (k_callA (vs := [.pointer (some ⟨ns.heap.size, 0, none⟩), .func (.func g0) #[] #[], S (dS (ckB false [(x1, x2), (y1, y2)]) (mulI x1 y2)), S (dS (dB (ckB false [(x1, x2), (y1, y2)]) (mulI x1 y2)) (mulI y1 x2))]) en227 (cons_eq aqr (cons_eq aqs (cons_eq aqt (cons_eq aqu rfl)))) (do_ok (o := os (dS (ckB false [(x1, x2), (y1, y2)]) (mulI x1 y2)) (dS (dB (ckB false [(x1, x2), (y1, y2)]) (mulI x1 y2)) (mulI y1 x2))) ly ht heg (hop _ _)) ?_);rintro atm atn ⟨aoo, aqv, rfl⟩;have ht := Tb.gr aoo ly dc ht;have fy := Blk.gr aoo (by simp; omega) fy;have ib := Blk.gr aoo (by simp; omega) ib;have kx := Blk.gr aoo (by simp; omega) kx;have fx := low_gr fx aoo (bz fx) (fun g hgg => by cases hgg; omega)
 have ato := aoo.size;refine go ?_;exact ⟨rfl, _, (act_put _ _ _ _ _).symm, trivial, rfl, ⟨fx, om, ht, fy, ib, kx, aqv⟩⟩;exact trivial;intro aot aqw aqx _ aoz aqy;obtain ⟨aot, rfl⟩ := ovE aoz;obtain ⟨fx, zst, ht, fy, ib, kx, ly⟩ := aqx;have ly : Blk aqw (ns.heap.size) 61 #[.bool (dB (dB (dB (ckB false [(x1, x2), (y1, y2)]) (mulI x1 y2)) (mulI y1 x2)) (os (dS (ckB false [(x1, x2), (y1, y2)]) (mulI x1 y2)) (dS (dB (ckB false [(x1, x2), (y1, y2)]) (mulI x1 y2)) (mulI y1 x2))))] := ly;have atp := bz fx;have aqz := zpv (aqy 14 31 rfl rfl);refine go ?_;refine l_op (k_callA (vs := [.pointer (some ⟨ns.heap.size, 0, none⟩), S (x2), S (y2)]) en224 rfl (mul_ok ly ht x2 y2) ?_);rintro atq atr ⟨aop, ao8, rfl⟩;have ht := Tb.gr aop ly dc ht;have fy := Blk.gr aop (by simp; omega) fy;have ib := Blk.gr aop (by simp; omega) ib;have kx := Blk.gr aop (by simp; omega) kx;have fx := low_gr fx aop (bz fx) (fun g hgg => by cases hgg; omega);have att := aop.size;refine l_op (k_callA (vs := [.pointer (some ⟨ns.heap.size, 0, none⟩), S (dS (dB (dB (ckB false [(x1, x2), (y1, y2)]) (mulI x1 y2)) (mulI y1 x2)) (os (dS (ckB false [(x1, x2), (y1, y2)]) (mulI x1 y2)) (dS (dB (ckB false [(x1, x2), (y1, y2)]) (mulI x1 y2)) (mulI y1 x2)))), S (dS (dB (dB (dB (ckB false [(x1, x2), (y1, y2)]) (mulI x1 y2)) (mulI y1 x2)) (os (dS (ckB false [(x1, x2), (y1, y2)]) (mulI x1 y2)) (dS (dB (ckB false [(x1, x2), (y1, y2)]) (mulI x1 y2)) (mulI y1 x2)))) (mulI x2 y2))]) en225 rfl (red_ok ao8 ht (dS (dB (dB (ckB false [(x1, x2), (y1, y2)]) (mulI x1 y2)) (mulI y1 x2)) (os (dS (ckB false [(x1, x2), (y1, y2)]) (mulI x1 y2)) (dS (dB (ckB false [(x1, x2), (y1, y2)]) (mulI x1 y2)) (mulI y1 x2)))) (dS (dB (dB (dB (ckB false [(x1, x2), (y1, y2)]) (mulI x1 y2)) (mulI y1 x2)) (os (dS (ckB false [(x1, x2), (y1, y2)]) (mulI x1 y2)) (dS (dB (ckB false [(x1, x2), (y1, y2)]) (mulI x1 y2)) (mulI y1 x2)))) (mulI x2 y2))) ?_)
 rintro atu atv ⟨aoq, ⟨atw, ao9⟩, rfl⟩;have fy := Blk.gr aoq (by simp; omega) fy;have ib := Blk.gr aoq (by simp; omega) ib;have kx := Blk.gr aoq (by simp; omega) kx;have fx := low_gr fx aoq (bz fx) (fun g hgg => by cases hgg; omega);have atx := aoq.size;refine go ?_;refine SA kx (fun aty aor aq2 => ?_);have fy := pb aor fy;have ib := pb aor ib;have ao9 := pb aor ao9;have fx := plw aor fx;have atz := psz aor;refine go ?_;refine f_out (v := .tuple #[.agg #[S (rN (redW (dB (dB (dB (dB (ckB false [(x1, x2), (y1, y2)]) (mulI x1 y2)) (mulI y1 x2)) (os (dS (ckB false [(x1, x2), (y1, y2)]) (mulI x1 y2)) (dS (dB (ckB false [(x1, x2), (y1, y2)]) (mulI x1 y2)) (mulI y1 x2)))) (mulI x2 y2)) (dS (dB (dB (ckB false [(x1, x2), (y1, y2)]) (mulI x1 y2)) (mulI y1 x2)) (os (dS (ckB false [(x1, x2), (y1, y2)]) (mulI x1 y2)) (dS (dB (ckB false [(x1, x2), (y1, y2)]) (mulI x1 y2)) (mulI y1 x2)))) (dS (dB (dB (dB (ckB false [(x1, x2), (y1, y2)]) (mulI x1 y2)) (mulI y1 x2)) (os (dS (ckB false [(x1, x2), (y1, y2)]) (mulI x1 y2)) (dS (dB (ckB false [(x1, x2), (y1, y2)]) (mulI x1 y2)) (mulI y1 x2)))) (mulI x2 y2)))), S (rD (redW (dB (dB (dB (dB (ckB false [(x1, x2), (y1, y2)]) (mulI x1 y2)) (mulI y1 x2)) (os (dS (ckB false [(x1, x2), (y1, y2)]) (mulI x1 y2)) (dS (dB (ckB false [(x1, x2), (y1, y2)]) (mulI x1 y2)) (mulI y1 x2)))) (mulI x2 y2)) (dS (dB (dB (ckB false [(x1, x2), (y1, y2)]) (mulI x1 y2)) (mulI y1 x2)) (os (dS (ckB false [(x1, x2), (y1, y2)]) (mulI x1 y2)) (dS (dB (ckB false [(x1, x2), (y1, y2)]) (mulI x1 y2)) (mulI y1 x2)))) (dS (dB (dB (dB (ckB false [(x1, x2), (y1, y2)]) (mulI x1 y2)) (mulI y1 x2)) (os (dS (ckB false [(x1, x2), (y1, y2)]) (mulI x1 y2)) (dS (dB (ckB false [(x1, x2), (y1, y2)]) (mulI x1 y2)) (mulI y1 x2)))) (mulI x2 y2))))], .int .i64 (rER (redW (dB (dB (dB (dB (ckB false [(x1, x2), (y1, y2)]) (mulI x1 y2)) (mulI y1 x2)) (os (dS (ckB false [(x1, x2), (y1, y2)]) (mulI x1 y2)) (dS (dB (ckB false [(x1, x2), (y1, y2)]) (mulI x1 y2)) (mulI y1 x2)))) (mulI x2 y2)) (dS (dB (dB (ckB false [(x1, x2), (y1, y2)]) (mulI x1 y2)) (mulI y1 x2)) (os (dS (ckB false [(x1, x2), (y1, y2)]) (mulI x1 y2)) (dS (dB (ckB false [(x1, x2), (y1, y2)]) (mulI x1 y2)) (mulI y1 x2)))) (dS (dB (dB (dB (ckB false [(x1, x2), (y1, y2)]) (mulI x1 y2)) (mulI y1 x2)) (os (dS (ckB false [(x1, x2), (y1, y2)]) (mulI x1 y2)) (dS (dB (ckB false [(x1, x2), (y1, y2)]) (mulI x1 y2)) (mulI y1 x2)))) (mulI x2 y2))))]) (res2 (r1 := .cell 6 25) (r2 := .tmp 7) rfl ?_ ?_) fx rfl
 refine res_cellA (t := 6) (cs := [S (rN (redW (dB (dB (dB (dB (ckB false [(x1, x2), (y1, y2)]) (mulI x1 y2)) (mulI y1 x2)) (os (dS (ckB false [(x1, x2), (y1, y2)]) (mulI x1 y2)) (dS (dB (ckB false [(x1, x2), (y1, y2)]) (mulI x1 y2)) (mulI y1 x2)))) (mulI x2 y2)) (dS (dB (dB (ckB false [(x1, x2), (y1, y2)]) (mulI x1 y2)) (mulI y1 x2)) (os (dS (ckB false [(x1, x2), (y1, y2)]) (mulI x1 y2)) (dS (dB (ckB false [(x1, x2), (y1, y2)]) (mulI x1 y2)) (mulI y1 x2)))) (dS (dB (dB (dB (ckB false [(x1, x2), (y1, y2)]) (mulI x1 y2)) (mulI y1 x2)) (os (dS (ckB false [(x1, x2), (y1, y2)]) (mulI x1 y2)) (dS (dB (ckB false [(x1, x2), (y1, y2)]) (mulI x1 y2)) (mulI y1 x2)))) (mulI x2 y2)))), S (rD (redW (dB (dB (dB (dB (ckB false [(x1, x2), (y1, y2)]) (mulI x1 y2)) (mulI y1 x2)) (os (dS (ckB false [(x1, x2), (y1, y2)]) (mulI x1 y2)) (dS (dB (ckB false [(x1, x2), (y1, y2)]) (mulI x1 y2)) (mulI y1 x2)))) (mulI x2 y2)) (dS (dB (dB (ckB false [(x1, x2), (y1, y2)]) (mulI x1 y2)) (mulI y1 x2)) (os (dS (ckB false [(x1, x2), (y1, y2)]) (mulI x1 y2)) (dS (dB (ckB false [(x1, x2), (y1, y2)]) (mulI x1 y2)) (mulI y1 x2)))) (dS (dB (dB (dB (ckB false [(x1, x2), (y1, y2)]) (mulI x1 y2)) (mulI y1 x2)) (os (dS (ckB false [(x1, x2), (y1, y2)]) (mulI x1 y2)) (dS (dB (ckB false [(x1, x2), (y1, y2)]) (mulI x1 y2)) (mulI y1 x2)))) (mulI x2 y2))))]) (b := aou.heap.size) (o := 0) U36 rfl sz36 ?_ ?_;exact rfl;exact Blk.cells aq2 (i := 0) rfl;exact res_tmp (t := 7) (by exact rfl) _
theorem sum_add (x1 x2 y1 y2 : List UInt8) (w : World) (ht : Tb w) : Calls Tryz.prog 62 #[.func (.func 63) #[] #[], .agg #[S (x1), S (x2)], .agg #[S (y1), S (y2)]] w (Ret w fun v w' => v = resR (addR (x1, x2) (y1, y2))) := add_spec x1 x2 y1 y2 ▸ sum_gen en222 (fun a b W hW => iAdd_ok a b W hW) x1 x2 y1 y2 w ht
theorem sum_sub (x1 x2 y1 y2 : List UInt8) (w : World) (ht : Tb w) : Calls Tryz.prog 62 #[.func (.func 91) #[] #[], .agg #[S (x1), S (x2)], .agg #[S (y1), S (y2)]] w (Ret w fun v w' => v = resR (subR (x1, x2) (y1, y2))) := sub_spec x1 x2 y1 y2 ▸ sum_gen en226 (fun a b W hW => iSub_ok a b W hW) x1 x2 y1 y2 w ht
theorem rAdd_ok (x1 x2 y1 y2 : List UInt8) (w : World) (ht : Tb w) :
    Calls Tryz.prog 23 #[.agg #[S (x1), S (x2)], .agg #[S (y1), S (y2)]] w (Ret w fun v w' => v = resR (addR (x1, x2) (y1, y2))) := by
 refine f_in Tryz.func23 rfl ?_;refine go ?_;refine bx (fun aom wz fx => ?_);have ht := Tb.ext wz.2 ht;have fy := wz.2;refine bx (fun aol sc ib => ?_);have ht := Tb.ext sc.2 ht;have fx := be sc.2 fx;have fy := xt fy sc.2;refine al inf36 (fun aoo ns r8 => ?_);have ht := Tb.ext ns.2 ht;have fx := be ns.2 fx;have ib := be ns.2 ib;have fy := xt fy ns.2;refine go ?_;refine cl en221 (sum_add x1 x2 y1 y2 _ ht) ?_;rintro aop aoq kx rfl;have fx := be kx.2 fx;have ib := be kx.2 ib;have r8 := be kx.2 r8;have fy := xt fy kx.2;refine go ?_;refine SA r8 (fun aor ly aon => ?_);have fx := pb ly fx;have ib := pb ly ib;have fy := plw ly fy;have aos := psz ly;refine go ?_;refine f_out (v := .tuple #[.agg #[S (rN (addR (x1, x2) (y1, y2))), S (rD (addR (x1, x2) (y1, y2)))], .int .i64 (rER (addR (x1, x2) (y1, y2)))]) (res2 (r1 := .cell 4 25) (r2 := .tmp 5) rfl ?_ ?_) fy rfl;refine res_cellA (t := 4) (cs := [S (rN (addR (x1, x2) (y1, y2))), S (rD (addR (x1, x2) (y1, y2)))]) (b := aol.heap.size) (o := 0) U36 rfl sz36 ?_ ?_;exact rfl;exact Blk.cells aon (i := 0) rfl;exact res_tmp (t := 5) (by exact rfl) _
theorem rSub_ok (x1 x2 y1 y2 : List UInt8) (w : World) (ht : Tb w) :
    Calls Tryz.prog 56 #[.agg #[S (x1), S (x2)], .agg #[S (y1), S (y2)]] w (Ret w fun v w' => v = resR (subR (x1, x2) (y1, y2))) := by
 refine f_in Tryz.func56 rfl ?_;refine go ?_;refine bx (fun aom wz fx => ?_);have ht := Tb.ext wz.2 ht;have fy := wz.2;refine bx (fun aol sc ib => ?_);have ht := Tb.ext sc.2 ht;have fx := be sc.2 fx;have fy := xt fy sc.2;refine al inf36 (fun aoo ns r8 => ?_);have ht := Tb.ext ns.2 ht;have fx := be ns.2 fx;have ib := be ns.2 ib;have fy := xt fy ns.2;refine go ?_;refine cl en221 (sum_sub x1 x2 y1 y2 _ ht) ?_;rintro aop aoq kx rfl;have fx := be kx.2 fx;have ib := be kx.2 ib;have r8 := be kx.2 r8;have fy := xt fy kx.2;refine go ?_;refine SA r8 (fun aor ly aon => ?_);have fx := pb ly fx;have ib := pb ly ib;have fy := plw ly fy;have aos := psz ly;refine go ?_;refine f_out (v := .tuple #[.agg #[S (rN (subR (x1, x2) (y1, y2))), S (rD (subR (x1, x2) (y1, y2)))], .int .i64 (rER (subR (x1, x2) (y1, y2)))]) (res2 (r1 := .cell 4 25) (r2 := .tmp 5) rfl ?_ ?_) fy rfl;refine res_cellA (t := 4) (cs := [S (rN (subR (x1, x2) (y1, y2))), S (rD (subR (x1, x2) (y1, y2)))]) (b := aol.heap.size) (o := 0) U36 rfl sz36 ?_ ?_;exact rfl;exact Blk.cells aon (i := 0) rfl;exact res_tmp (t := 5) (by exact rfl) _
end Go.Proofs.YtjijfnggomhpiaaGreatDoor
namespace Go.Proofs.YtjijfnggomhpiaaGreatDoor
open Go Go.Eng Go.RowKit
theorem okR_pos {a : R} (h : okR a = true) : 0 < valZ a.2 := by
  have h2 := okR_2 h
  simp only [okR, Bool.and_eq_true, Bool.not_eq_true', decide_eq_false_iff_not] at h
  have := h.1.2
  rw [cmpS_zero h2, cmpI_nonpos] at this
  omega
end Go.Proofs.YtjijfnggomhpiaaGreatDoor
namespace Go.Proofs.YtjijfnggomhpiaaGreatDoor
set_option maxRecDepth 100000
open Go Go.Eng Go.RowKit
attribute [local irreducible] wpListIn Code.wpIn Oper.wpIn Exit.then Exit.inBlock Exit.noGoto
set_option maxHeartbeats 40000000
section
variable {f : FuncId} {a : Array Value} {w : World}
theorem cEq {X Y : Value} (h : Calls Tryz.prog f a w (Ret w fun v _ => v = X)) (e : X = Y) : Calls Tryz.prog f a w (Ret w fun v _ => v = Y) := e ▸ h
theorem cB {X Y : Bool} (h : Calls Tryz.prog f a w (Ret w fun v _ => v = .bool X)) (e : X = Y) : Calls Tryz.prog f a w (Ret w fun v _ => v = .bool Y) := e ▸ h
end
theorem up_0 {a b : Nat} (h : nS (a % b) = [48]) : S (nS (a / b)) = S (nS (upn a b)) := by
  have := showI_zero.1 h
  unfold upn; rw [if_pos om]
theorem up_1 {a b : Nat} (h : ¬ nS (a % b) = [48]) : S (nS (a / b + 1)) = S (nS (upn a b)) := by
  unfold upn; rw [if_neg fun e => h (by rw [e]; rfl)]
theorem div_fi {a b : Nat} (h : Fi a) : Fi (a / b) := Nat.lt_of_le_of_lt (Nat.div_le_self _ _) h
theorem upn_fi {a b : Nat} (h : Fi a) (hb : 0 < b) : Fi (upn a b) := Nat.lt_of_le_of_lt (upn_le hb) h
theorem up_fi {a b : Nat} (h : Fi a) (hb : 0 < b) (h0 : ¬ nS (a % b) = [48]) : Fi (a / b + 1) := by
  have h1 := upn_fi h hb
  unfold upn at h1
  rwa [if_neg fun e => h0 (by rw [e]; rfl)] at h1
theorem fi1 : Fi 1 := by unfold Fi; decide
theorem fi_add {a b : Nat} (h : Fi (a + b)) : Fi a ∧ Fi b := by unfold Fi at *; omega
theorem divI_N {a b : Nat} (ha : Fi a) (hb : Fi b) (h0 : 0 < b) : divI (nS a) (nS b) = some (nS (a / b), nS (a % b)) := divI_Z ha.z hb.z om (div_fi ha).z
theorem zAdd_ok {l m : List UInt8} {a b : Int} {w : World} (hl : l = showI a) (hm : m = showI b) (ha : Fz a) (hb : Fz b) (h : Fz (a + b)) (ht : Tb w) :
    Calls Tryz.prog 71 #[S (l), S (m)] w (Ret w fun v w' => v = S (showI (a + b))) := by
 subst hl hm;refine f_in Tryz.func71 rfl ?_;refine go ?_;refine cl en222 (cEq (Y := .tuple #[S (showI (a + b)), .int .i64 (0)]) (iAdd_ok _ _ _ (ht.ext (Ext.refl _))) (congrArg resI (addI_Z ha hb h))) ?_;rintro sc aol kx rfl;have r8 := kx.2;refine go ?_;exact f_ret1 (t := 4) (v := S (showI (a + b))) rfl r8 rfl rfl
theorem zSub_ok {l m : List UInt8} {a b : Int} {w : World} (hl : l = showI a) (hm : m = showI b) (ha : Fz a) (hb : Fz b) (h : Fz (a - b)) (ht : Tb w) :
    Calls Tryz.prog 68 #[S (l), S (m)] w (Ret w fun v w' => v = S (showI (a - b))) := by
 subst hl hm;refine f_in Tryz.func68 rfl ?_;refine go ?_;refine cl en226 (cEq (Y := .tuple #[S (showI (a - b)), .int .i64 (0)]) (iSub_ok _ _ _ (ht.ext (Ext.refl _))) (congrArg resI (subI_Z ha hb h))) ?_;rintro sc aol kx rfl;have r8 := kx.2;refine go ?_;exact f_ret1 (t := 4) (v := S (showI (a - b))) rfl r8 rfl rfl
theorem zMul_ok {l m : List UInt8} {a b : Int} {w : World} (hl : l = showI a) (hm : m = showI b) (ha : Fz a) (hb : Fz b) (h : Fz (a * b)) (ht : Tb w) :
    Calls Tryz.prog 69 #[S (l), S (m)] w (Ret w fun v w' => v = S (showI (a * b))) := by
 subst hl hm;refine f_in Tryz.func69 rfl ?_;refine go ?_;refine cl en229 (cEq (Y := .tuple #[S (showI (a * b)), .int .i64 (0)]) (iMul_ok _ _ _ (ht.ext (Ext.refl _))) (congrArg resI (mulI_Z ha hb h))) ?_;rintro sc aol kx rfl;have r8 := kx.2;refine go ?_;exact f_ret1 (t := 4) (v := S (showI (a * b))) rfl r8 rfl rfl
theorem zDown_ok {l m : List UInt8} {a b : Int} {w : World} (hl : l = showI a) (hm : m = showI b) (ha : Fz a) (hb : Fz b) (hp : 0 < b) (ht : Tb w) :
    Calls Tryz.prog 70 #[S (l), S (m)] w (Ret w fun v w' => v = S (showI (a / b))) := by
 subst hl hm;have h0 : b ≠ 0 := om;refine f_in Tryz.func70 rfl ?_;refine go ?_;refine clb en83 (hc := cEq (Y := .tuple #[S (showI (a / b)), S (showI (a % b)), .int .i64 (0)]) (iDiv_ok _ _ _ (ht.ext (Ext.refl _))) (congrArg resD (divI_Z ha hb h0 (fz_div ha om)))) (hk := ?_);rintro sc aol kx rfl;have r8 := kx.2;refine go ?_;exact f_ret1 (t := 4) (v := S (showI (a / b))) rfl r8 rfl rfl
theorem nAdd_ok {l m : List UInt8} {a b : Nat} {w : World} (hl : l = nS a) (hm : m = nS b) (h : Fi (a + b)) (ht : Tb w) : Calls Tryz.prog 71 #[S l, S m] w (Ret w fun v _ => v = S (nS (a + b))) := zAdd_ok hl hm (fi_add h).1.z (fi_add h).2.z h.z ht
theorem nMul_ok {l m : List UInt8} {a b : Nat} {w : World} (hl : l = nS a) (hm : m = nS b) (ha : Fi a) (hb : Fi b) (h : Fi (a * b)) (ht : Tb w) : Calls Tryz.prog 69 #[S l, S m] w (Ret w fun v _ => v = S (nS (a * b))) := zMul_ok hl hm ha.z hb.z h.z ht
theorem nDown_ok {l m : List UInt8} {a b : Nat} {w : World} (hl : l = nS a) (hm : m = nS b) (ha : Fi a) (hb : Fi b) (hp : 0 < b) (ht : Tb w) : Calls Tryz.prog 70 #[S l, S m] w (Ret w fun v _ => v = S (nS (a / b))) := zDown_ok hl hm ha.z hb.z om ht
theorem nUp_ok {l m : List UInt8} {a b : Nat} {w : World} (hl : l = nS a) (hm : m = nS b) (ha : Fi a) (hb : Fi b) (hp : 0 < b) (ht : Tb w) :
    Calls Tryz.prog 102 #[S (l), S (m)] w (Ret w fun v w' => v = S (nS (upn a b))) := by
 subst hl hm;refine f_in Tryz.func102 rfl ?_;refine go ?_;refine cl en83 (cEq (Y := .tuple #[S (nS (a / b)), S (nS (a % b)), .int .i64 (0)]) (iDiv_ok _ _ _ (ht.ext (Ext.refl _))) (congrArg resD (divI_N ha hb hp))) ?_;rintro aom aon sc rfl;have kx := sc.2;refine go ?_;refine eqs (b := [48]) ?_;refine go ?_;by_cases r8 : (nS (a % b)) = ([48]);refine go ?_;exact f_ret1 (t := 4) (v := S (nS (a / b))) rfl kx (up_0 r8) rfl;refine go ?_;refine cl en1045 (nAdd_ok rfl lit1 (up_fi ha hp r8) (ht.ext kx)) ?_;rintro aoo aop aol rfl;have kx := xt kx aol.2;refine go ?_;exact f_ret1 (t := 4) (v := S (nS (a / b + 1))) rfl kx (up_1 r8) rfl
theorem fromN_ok {n : Nat} {w : World} (hn : n < 1000000000) (ht : Tb w) :
    Calls Tryz.prog 82 #[.int .i64 n] w (Ret w fun v w' => v = S (nS n)) := by
 refine f_in Tryz.func82 rfl ?_;refine go ?_;refine clb en131 (hc := cEq (Y := S (nS n)) (itoa_ok _ _ om om (ht.ext (Ext.refl _))) (congrArg S (itoa_nat n))) (hk := ?_);rintro sc aol kx rfl;have r8 := kx.2;refine go ?_;exact f_ret1 (t := 2) (v := S (nS n)) rfl r8 rfl rfl
end Go.Proofs.YtjijfnggomhpiaaGreatDoor
namespace Go.Proofs.YtjijfnggomhpiaaGreatDoor
set_option maxRecDepth 100000
open Go Go.Eng Go.RowKit
attribute [local irreducible] wpListIn Code.wpIn Oper.wpIn Exit.then Exit.inBlock Exit.noGoto
set_option maxHeartbeats 40000000
theorem Sc.fi {S : Nat} (h : Sc S) : Fi S := fi_pow h.lt dc
theorem ten_digs (k : Nat) : digs (49 :: List.replicate k 48) = List.replicate k 0 ++ [1] := by simp [digs]
theorem ofB_tens (k : Nat) : ofB 10 (List.replicate k 0 ++ [1]) = 10 ^ k := by
  induction k with
  | zero => rfl
  | succ k ih => rw [List.replicate_succ, List.cons_append]; show 0 + 10 * ofB 10 (List.replicate k 0 ++ [1]) = _; rw [ih, Nat.pow_succ]; omega
theorem ten_str {k : Nat} (h : k < 200) : (49 :: List.replicate k 48 : List UInt8) = nS (10 ^ k) := by
  have h1 : isNum (49 :: List.replicate k 48) = true := by
    simp only [isNum, Bool.and_eq_true, Bool.or_eq_true, decide_eq_true_eq]
    refine ⟨⟨⟨by simp, by simp; omega⟩, ?_⟩, Or.inr (by simp)⟩
    rw [List.all_cons, List.all_eq_true.2]
    · decide
    · intro x hx; rw [List.eq_of_mem_replicate hx]; decide
  have h2 := showN_valN h1
  have h3 : valN (49 :: List.replicate k 48) = 10 ^ k := by unfold valN; rw [ten_digs, ofB_tens]
  rw [h3] at h2
  rw [← h2]; unfold nS showI
  rw [if_neg om, Int.natAbs_natCast]
theorem zeros_str (k : Nat) : Lib.repeatL [48] k = List.replicate k 48 := by
  induction k with
  | zero => rfl
  | succ k ih => simp [Lib.repeatL, List.replicate_succ] at ih ⊢; exact ih
theorem one_str {k : Nat} (h : k < 200) : ([49] : List UInt8) ++ Lib.repeatL [48] k = nS (10 ^ k) := by rw [zeros_str, ← ten_str h]; rfl
theorem fz_sub {a b : Nat} (ha : a < 10 ^ 199) (hb : b < 10 ^ 199) : Fz ((a : Int) - (b : Int)) := by unfold Fz; omega
theorem spAt_ok {pl : Nat} (hp : pl < 200) {w : World} (ht : Tb w) :
    Calls Tryz.prog 51 #[.int .i64 pl] w (Ret w fun v w' => v = .agg #[.int .i64 pl, S (nS (10 ^ pl))]) := by
 refine f_in Tryz.func51 rfl ?_;refine go ?_;refine al inf1054 (fun aoo aom r8 => ?_);have kx := aom.2;refine go ?_;refine clb en132 (hc := repeat_ok [48] (pl) _ om dc) (hk := ?_);rintro aop aoq sc rfl;have r8 := be sc.2 r8;have kx := xt kx sc.2;refine l_op (k_addS (a := [49]) (b := Lib.repeatL [48] (pl)) rfl rfl (by rw [zeros_str]; simp; omega) ?_);refine go ?_;refine SA r8 (fun aor aol aon => ?_);have kx := plw aol kx;have aos := psz aol;refine go ?_;refine f_out (v := .agg #[.int .i64 pl, S (([49]) ++ (Lib.repeatL [48] (pl)))]) (res1  rfl ?_) kx (by rw [one_str hp]);refine res_cellA (t := 2) (cs := [.int .i64 pl, S (([49]) ++ (Lib.repeatL [48] (pl)))]) (b := w.heap.size) (o := 0) U1054 rfl sz1054 ?_ ?_;exact rfl;exact Blk.cells aon (i := 0) rfl
theorem spRatio_ok {a b : List UInt8} {w : World} :
    Calls Tryz.prog 41 #[S (a), S (b)] w (Ret w fun v w' => v = .agg #[S (a), S (b)]) := by
 refine f_in Tryz.func41 rfl ?_;refine go ?_;refine al inf36 (fun aon sc aol => ?_);have kx := sc.2;refine go ?_;refine SA aol (fun aoo r8 aom => ?_);have kx := plw r8 kx;have aop := psz r8;refine go ?_;refine f_out (v := .agg #[S (a), S (b)]) (res1  rfl ?_) kx rfl;refine res_cellA (t := 4) (cs := [S (a), S (b)]) (b := w.heap.size) (o := 0) U36 rfl sz36 ?_ ?_;exact rfl;exact Blk.cells aom (i := 0) rfl
theorem spOf_ok {sO pl : Nat} {n d : Nat} {w : World} (hS : Sc sO) (hn : Fi n) (hd : Fi d) (h0 : 0 < d) (hm : Fi (n * sO)) (ht : Tb w) :
    Calls Tryz.prog 50 #[.agg #[.int .i64 pl, S (nS sO)], .agg #[S (nS n), S (nS d)]] w (Ret w fun v w' => v = .agg #[S (nS ((ofP sO n d).1)), S (nS ((ofP sO n d).2))]) := by
 refine f_in Tryz.func50 rfl ?_;refine go ?_;refine bx (fun aom ao2 kx => ?_);have aol := ao2.2;refine bx (fun ao0 ao1 r8 => ?_);have kx := be ao1.2 kx;have aol := xt aol ao1.2;refine al inf1056 (fun ao5 aot sc => ?_);have kx := be aot.2 kx;have r8 := be aot.2 r8;have aol := xt aol aot.2;refine go ?_;refine cl en1043 (nMul_ok rfl rfl hn hS.fi hm (ht.ext aol)) ?_;rintro ao6 ao7 aon rfl;have kx := be aon.2 kx;have r8 := be aon.2 r8;have sc := be aon.2 sc;have aol := xt aol aon.2;refine go ?_;refine c_an 7 ?_;refine sf ?_;refine sf_ae (V := S (nS ((n * sO) / d))) (fun aph api aoo apj => ?_) ?_;refine cl en1044 (nDown_ok rfl rfl hm hd h0 (ht.ext (xt aol aoo))) ?_;rintro apk apl aop rfl;have ao3 := aop.2;refine go ?_;exact fs ⟨ao3, rfl⟩;refine sf ?_;intro apw apx aoq apy;have kx := be aoq.2 kx;have r8 := be aoq.2 r8;have sc := be aoq.2 sc;have aol := xt aol aoq.2;refine cl en1069 (nUp_ok rfl rfl hm hd h0 (ht.ext aol)) ?_;rintro apz ap0 aor rfl;have kx := be aor.2 kx;have r8 := be aor.2 r8;have sc := be aor.2 sc;have aol := xt aol aor.2;refine go ?_;refine SA sc (fun ap1 aos ao4 => ?_);have kx := pb aos kx;have r8 := pb aos r8;have aol := plw aos aol;have ap2 := psz aos;refine go ?_;refine f_out (v := .agg #[S (nS ((n * sO) / d)), S (nS (upn (n * sO) d))]) (res1  rfl ?_) aol rfl;refine res_cellA (t := 4) (cs := [S (nS ((n * sO) / d)), S (nS (upn (n * sO) d))]) (b := ao0.heap.size) (o := 0) U1056 rfl sz1056 ?_ ?_
 exact rfl;exact Blk.cells ao4 (i := 0) rfl
theorem spWhole_ok {sO pl : Nat} {n : Nat} {w : World} (hS : Sc sO) (h9 : n < 10 ^ 9) (hm : Fi (n * sO)) (ht : Tb w) :
    Calls Tryz.prog 48 #[.agg #[.int .i64 pl, S (nS sO)], .int .i64 n] w (Ret w fun v w' => v = .agg #[S (nS ((n * sO, n * sO).1)), S (nS ((n * sO, n * sO).2))]) := by
 have hn : Fi n := fi_pow (k := 9) h9 dc;refine f_in Tryz.func48 rfl ?_;refine go ?_;refine bx (fun aoq aov kx => ?_);have sc := aov.2;refine al inf1056 (fun aoy aor r8 => ?_);have kx := be aor.2 kx;have sc := xt sc aor.2;refine go ?_;refine c_an 4 ?_;refine sf ?_;refine sf_ae (V := S (nS (n))) (fun ao2 ao3 aol ao4 => ?_) ?_;refine cl en1067 (fromN_ok h9 (ht.ext (xt sc aol))) ?_;rintro ao5 ao6 aom rfl;have aow := aom.2;refine go ?_;exact fs ⟨aow, rfl⟩;refine sf ?_;intro apd ape aon apf;have kx := be aon.2 kx;have r8 := be aon.2 r8;have sc := xt sc aon.2;refine cl en1043 (nMul_ok rfl rfl hn hS.fi hm (ht.ext sc)) ?_;rintro apg aph aoo rfl;have kx := be aoo.2 kx;have r8 := be aoo.2 r8;have sc := xt sc aoo.2;refine go ?_;refine SA r8 (fun api aop aox => ?_);have kx := pb aop kx;have sc := plw aop sc;have apj := psz aop;refine go ?_;refine f_out (v := .agg #[S (nS (n * sO)), S (nS (n * sO))]) (res1  rfl ?_) sc rfl;refine res_cellA (t := 4) (cs := [S (nS (n * sO)), S (nS (n * sO))]) (b := aoq.heap.size) (o := 0) U1056 rfl sz1056 ?_ ?_;exact rfl;exact Blk.cells aox (i := 0) rfl
theorem spPlus_ok {sO pl : Nat} {a b : N2} {w : World} (h1 : Fi (a.1 + b.1)) (h2 : Fi (a.2 + b.2)) (ht : Tb w) :
    Calls Tryz.prog 106 #[.agg #[.int .i64 pl, S (nS sO)], .agg #[S (nS a.1), S (nS a.2)], .agg #[S (nS b.1), S (nS b.2)]] w (Ret w fun v w' => v = .agg #[S (nS ((plP a b).1)), S (nS ((plP a b).2))]) := by
 refine f_in Tryz.func106 rfl ?_;refine go ?_;refine bx (fun aos ao6 kx => ?_);have aom := ao6.2;refine bx (fun aot ao4 r8 => ?_);have kx := be ao4.2 kx;have aom := xt aom ao4.2;refine bx (fun ao5 ao3 sc => ?_);have kx := be ao3.2 kx;have r8 := be ao3.2 r8;have aom := xt aom ao3.2;refine al inf1056 (fun ao9 aou aol => ?_);have kx := be aou.2 kx;have r8 := be aou.2 r8;have sc := be aou.2 sc;have aom := xt aom aou.2;refine go ?_;refine c_an 9 ?_;refine sf ?_;refine sf_ae (V := S (nS (a.1 + b.1))) (fun apm apn aon apo => ?_) ?_;refine cl en1045 (nAdd_ok rfl rfl h1 (ht.ext (xt aom aon))) ?_;rintro apq apr aoo rfl;have ao7 := aoo.2;refine go ?_;exact fs ⟨ao7, rfl⟩;refine sf ?_;intro ap4 ap5 aop ap6;have kx := be aop.2 kx;have r8 := be aop.2 r8;have sc := be aop.2 sc;have aol := be aop.2 aol;have aom := xt aom aop.2;refine cl en1045 (nAdd_ok rfl rfl h2 (ht.ext aom)) ?_;rintro ap7 ap8 aoq rfl;have kx := be aoq.2 kx;have r8 := be aoq.2 r8;have sc := be aoq.2 sc;have aol := be aoq.2 aol;have aom := xt aom aoq.2;refine go ?_;refine SA aol (fun ap9 aor ao8 => ?_);have kx := pb aor kx;have r8 := pb aor r8;have sc := pb aor sc;have aom := plw aor aom;have aqa := psz aor;refine go ?_;refine f_out (v := .agg #[S (nS (a.1 + b.1)), S (nS (a.2 + b.2))]) (res1  rfl ?_) aom rfl;refine res_cellA (t := 6) (cs := [S (nS (a.1 + b.1)), S (nS (a.2 + b.2))]) (b := ao5.heap.size) (o := 0) U1056 rfl sz1056 ?_ ?_
 exact rfl;exact Blk.cells ao8 (i := 0) rfl
theorem spMinus_ok {sO pl : Nat} {a b : N2} {w : World} (ha : Bk 199 a) (hb : Bk 199 b) (ht : Tb w) :
    Calls Tryz.prog 100 #[.agg #[.int .i64 pl, S (nS sO)], .agg #[S (nS a.1), S (nS a.2)], .agg #[S (nS b.1), S (nS b.2)]] w (Ret w fun v w' => v = .agg #[S (showI ((miP a b).1)), S (showI ((miP a b).2))]) := by
 have fa := ha.fi dc;have fb := hb.fi dc;refine f_in Tryz.func100 rfl ?_;refine go ?_;refine bx (fun aos ao6 kx => ?_);have aom := ao6.2;refine bx (fun aot ao4 r8 => ?_);have kx := be ao4.2 kx;have aom := xt aom ao4.2;refine bx (fun ao5 ao3 sc => ?_);have kx := be ao3.2 kx;have r8 := be ao3.2 r8;have aom := xt aom ao3.2;refine al inf1056 (fun ao9 aou aol => ?_);have kx := be aou.2 kx;have r8 := be aou.2 r8;have sc := be aou.2 sc;have aom := xt aom aou.2;refine go ?_;refine c_an 9 ?_;refine sf ?_;refine sf_ae (V := S (showI (((a.1 : Nat) : Int) - ((b.2 : Nat) : Int)))) (fun apm apn aon apo => ?_) ?_;refine cl en1038 (zSub_ok rfl rfl fa.1.z fb.2.z (fz_sub ha.1 hb.2) (ht.ext (xt aom aon))) ?_;rintro apq apr aoo rfl;have ao7 := aoo.2;refine go ?_;exact fs ⟨ao7, rfl⟩;refine sf ?_;intro ap4 ap5 aop ap6;have kx := be aop.2 kx;have r8 := be aop.2 r8;have sc := be aop.2 sc;have aol := be aop.2 aol;have aom := xt aom aop.2;refine cl en1038 (zSub_ok rfl rfl fa.2.z fb.1.z (fz_sub ha.2 hb.1) (ht.ext aom)) ?_;rintro ap7 ap8 aoq rfl;have kx := be aoq.2 kx;have r8 := be aoq.2 r8;have sc := be aoq.2 sc;have aol := be aoq.2 aol;have aom := xt aom aoq.2;refine go ?_;refine SA aol (fun ap9 aor ao8 => ?_);have kx := pb aor kx;have r8 := pb aor r8;have sc := pb aor sc;have aom := plw aor aom;have aqa := psz aor
 refine go ?_;refine f_out (v := .agg #[S (showI (((a.1 : Nat) : Int) - ((b.2 : Nat) : Int))), S (showI (((a.2 : Nat) : Int) - ((b.1 : Nat) : Int)))]) (res1  rfl ?_) aom rfl;refine res_cellA (t := 6) (cs := [S (showI (((a.1 : Nat) : Int) - ((b.2 : Nat) : Int))), S (showI (((a.2 : Nat) : Int) - ((b.1 : Nat) : Int)))]) (b := ao5.heap.size) (o := 0) U1056 rfl sz1056 ?_ ?_;exact rfl;exact Blk.cells ao8 (i := 0) rfl
theorem spTimes_ok {sO pl : Nat} {a b : N2} {w : World} (hS : Sc sO) (ha : Bk 95 a) (hb : Bk 95 b) (ht : Tb w) :
    Calls Tryz.prog 97 #[.agg #[.int .i64 pl, S (nS sO)], .agg #[S (nS a.1), S (nS a.2)], .agg #[S (nS b.1), S (nS b.2)]] w (Ret w fun v w' => v = .agg #[S (nS ((tmP sO a b).1)), S (nS ((tmP sO a b).2))]) := by
 have fa := ha.fi dc;have fb := hb.fi dc;refine f_in Tryz.func97 rfl ?_;refine go ?_;refine bx (fun aow ape kx => ?_);have aom := ape.2;refine bx (fun aox apc r8 => ?_);have kx := be apc.2 kx;have aom := xt aom apc.2;refine bx (fun apd apb sc => ?_);have kx := be apb.2 kx;have r8 := be apb.2 r8;have aom := xt aom apb.2;refine al inf1056 (fun apj aoy aol => ?_);have kx := be aoy.2 kx;have r8 := be aoy.2 r8;have sc := be aoy.2 sc;have aom := xt aom aoy.2;refine go ?_;refine c_an 15 ?_;refine sf ?_;refine sf_ae (V := S (nS (a.1 * b.1))) (fun apx apy aon apz => ?_) ?_;refine clb en1043 (hc := nMul_ok rfl rfl fa.1 fb.1 (fi_mul ha.1 hb.1 dc) (ht.ext (xt aom aon))) (hk := ?_);rintro ap0 ap1 aoo rfl;have apf := aoo.2;refine go ?_;exact fs ⟨apf, rfl⟩;refine sf ?_;refine sf_ae (V := S (nS ((a.1 * b.1) / sO))) (fun ap8 ap9 aop aqa => ?_) ?_;refine clb en1044 (hc := nDown_ok rfl rfl (fi_mul ha.1 hb.1 dc) hS.fi hS.pos (ht.ext (xt aom aop))) (hk := ?_);rintro aqb aqc aoq rfl;have apg := aoq.2;refine go ?_;exact fs ⟨apg, rfl⟩;refine sf ?_;refine sf_ae (V := S (nS (a.2 * b.2))) (fun aqp aqq aor aqr => ?_) ?_;refine clb en1043 (hc := nMul_ok rfl rfl fa.2 fb.2 (fi_mul ha.2 hb.2 dc) (ht.ext (xt aom aor))) (hk := ?_);rintro aqs aqt aos rfl;have aph := aos.2;refine go ?_;exact fs ⟨aph, rfl⟩;refine sf ?_;intro aq0 aq1 aot aq2;have kx := be aot.2 kx;have r8 := be aot.2 r8;have sc := be aot.2 sc
 have aol := be aot.2 aol;have aom := xt aom aot.2;refine clb en1069 (hc := nUp_ok rfl rfl (fi_mul ha.2 hb.2 dc) hS.fi hS.pos (ht.ext aom)) (hk := ?_);rintro aq3 aq4 aou rfl;have kx := be aou.2 kx;have r8 := be aou.2 r8;have sc := be aou.2 sc;have aol := be aou.2 aol;have aom := xt aom aou.2;refine go ?_;refine SA aol (fun aq5 aov api => ?_);have kx := pb aov kx;have r8 := pb aov r8;have sc := pb aov sc;have aom := plw aov aom;have aq6 := psz aov;refine go ?_;refine f_out (v := .agg #[S (nS ((a.1 * b.1) / sO)), S (nS (upn (a.2 * b.2) sO))]) (res1  rfl ?_) aom rfl;refine res_cellA (t := 6) (cs := [S (nS ((a.1 * b.1) / sO)), S (nS (upn (a.2 * b.2) sO))]) (b := apd.heap.size) (o := 0) U1056 rfl sz1056 ?_ ?_;exact rfl;exact Blk.cells api (i := 0) rfl
theorem spOver_ok {sO pl : Nat} {a b : N2} {w : World} (hS : Sc sO) (ha : Bk 95 a) (hb : Bk 190 b) (h1 : 0 < b.1) (h2 : 0 < b.2) (ht : Tb w) :
    Calls Tryz.prog 47 #[.agg #[.int .i64 pl, S (nS sO)], .agg #[S (nS a.1), S (nS a.2)], .agg #[S (nS b.1), S (nS b.2)]] w (Ret w fun v w' => v = .agg #[S (nS ((ovP sO a b).1)), S (nS ((ovP sO a b).2))]) := by
 have fa := ha.fi dc;have fb := hb.fi dc;refine f_in Tryz.func47 rfl ?_;refine go ?_;refine bx (fun aow ape kx => ?_);have aom := ape.2;refine bx (fun aox apc r8 => ?_);have kx := be apc.2 kx;have aom := xt aom apc.2;refine bx (fun apd apb sc => ?_);have kx := be apb.2 kx;have r8 := be apb.2 r8;have aom := xt aom apb.2;refine al inf1056 (fun apj aoy aol => ?_);have kx := be aoy.2 kx;have r8 := be aoy.2 r8;have sc := be aoy.2 sc;have aom := xt aom aoy.2;refine go ?_;refine c_an 15 ?_;refine sf ?_;refine sf_ae (V := S (nS (a.1 * sO))) (fun apx apy aon apz => ?_) ?_;refine clb en1043 (hc := nMul_ok rfl rfl fa.1 hS.fi (fi_mul ha.1 hS.lt dc) (ht.ext (xt aom aon))) (hk := ?_);rintro ap0 ap1 aoo rfl;have apf := aoo.2;refine go ?_;exact fs ⟨apf, rfl⟩;refine sf ?_;refine sf_ae (V := S (nS ((a.1 * sO) / b.2))) (fun ap8 ap9 aop aqa => ?_) ?_;refine clb en1044 (hc := nDown_ok rfl rfl (fi_mul ha.1 hS.lt dc) fb.2 h2 (ht.ext (xt aom aop))) (hk := ?_);rintro aqb aqc aoq rfl;have apg := aoq.2;refine go ?_;exact fs ⟨apg, rfl⟩;refine sf ?_;refine sf_ae (V := S (nS (a.2 * sO))) (fun aqp aqq aor aqr => ?_) ?_;refine clb en1043 (hc := nMul_ok rfl rfl fa.2 hS.fi (fi_mul ha.2 hS.lt dc) (ht.ext (xt aom aor))) (hk := ?_);rintro aqs aqt aos rfl;have aph := aos.2;refine go ?_;exact fs ⟨aph, rfl⟩;refine sf ?_;intro aq0 aq1 aot aq2;have kx := be aot.2 kx;have r8 := be aot.2 r8;have sc := be aot.2 sc
 have aol := be aot.2 aol;have aom := xt aom aot.2;refine clb en1069 (hc := nUp_ok rfl rfl (fi_mul ha.2 hS.lt dc) fb.1 h1 (ht.ext aom)) (hk := ?_);rintro aq3 aq4 aou rfl;have kx := be aou.2 kx;have r8 := be aou.2 r8;have sc := be aou.2 sc;have aol := be aou.2 aol;have aom := xt aom aou.2;refine go ?_;refine SA aol (fun aq5 aov api => ?_);have kx := pb aov kx;have r8 := pb aov r8;have sc := pb aov sc;have aom := plw aov aom;have aq6 := psz aov;refine go ?_;refine f_out (v := .agg #[S (nS ((a.1 * sO) / b.2)), S (nS (upn (a.2 * sO) b.1))]) (res1  rfl ?_) aom rfl;refine res_cellA (t := 6) (cs := [S (nS ((a.1 * sO) / b.2)), S (nS (upn (a.2 * sO) b.1))]) (b := apd.heap.size) (o := 0) U1056 rfl sz1056 ?_ ?_;exact rfl;exact Blk.cells api (i := 0) rfl
theorem spBy_ok {sO pl : Nat} {a : N2} {n d : Nat} {w : World} (ha : Bk 190 a) (hn : n < 10 ^ 9) (hd : d < 10 ^ 9) (h0 : 0 < d) (ht : Tb w) :
    Calls Tryz.prog 93 #[.agg #[.int .i64 pl, S (nS sO)], .agg #[S (nS a.1), S (nS a.2)], .int .i64 n, .int .i64 d] w (Ret w fun v w' => v = .agg #[S (nS ((byP a n d).1)), S (nS ((byP a n d).2))]) := by
 have fa := ha.fi dc;refine f_in Tryz.func93 rfl ?_;refine go ?_;refine bx (fun aom ao9 kx => ?_);have aol := ao9.2;refine bx (fun ao7 ao8 r8 => ?_);have kx := be ao8.2 kx;have aol := xt aol ao8.2;refine al inf1056 (fun ape aoy sc => ?_);have kx := be aoy.2 kx;have r8 := be aoy.2 r8;have aol := xt aol aoy.2;refine go ?_;refine cl en1067 (fromN_ok hn (ht.ext aol)) ?_;rintro apf apg aon rfl;have kx := be aon.2 kx;have r8 := be aon.2 r8;have sc := be aon.2 sc;have aol := xt aol aon.2;refine go ?_;refine cl en1067 (fromN_ok hd (ht.ext aol)) ?_;rintro aph api aoo rfl;have kx := be aoo.2 kx;have r8 := be aoo.2 r8;have sc := be aoo.2 sc;have aol := xt aol aoo.2;refine go ?_;refine c_an 11 ?_;refine sf ?_;refine sf_ae (V := S (nS (a.1 * n))) (fun apt apu aop apv => ?_) ?_;refine clb en1043 (hc := nMul_ok rfl rfl fa.1 (fi_pow hn dc) (fi_mul ha.1 hn dc) (ht.ext (xt aol aop))) (hk := ?_);rintro apw apx aoq rfl;have apa := aoq.2;refine go ?_;exact fs ⟨apa, rfl⟩;refine sf ?_;refine sf_ae (V := S (nS ((a.1 * n) / d))) (fun ap1 ap2 aor ap3 => ?_) ?_;refine clb en1044 (hc := nDown_ok rfl rfl (fi_mul ha.1 hn dc) (fi_pow hd dc) h0 (ht.ext (xt aol aor))) (hk := ?_);rintro ap4 ap5 aos rfl;have apb := aos.2;refine go ?_;exact fs ⟨apb, rfl⟩;refine sf ?_;refine sf_ae (V := S (nS (a.2 * n))) (fun aqf aqg aot aqh => ?_) ?_;refine clb en1043 (hc := nMul_ok rfl rfl fa.2 (fi_pow hn dc) (fi_mul ha.2 hn dc) (ht.ext (xt aol aot))) (hk := ?_)
 rintro aqi aqj aou rfl;have apc := aou.2;refine go ?_;exact fs ⟨apc, rfl⟩;refine sf ?_;intro aqn aqo aov aqp;have kx := be aov.2 kx;have r8 := be aov.2 r8;have sc := be aov.2 sc;have aol := xt aol aov.2;refine clb en1069 (hc := nUp_ok rfl rfl (fi_mul ha.2 hn dc) (fi_pow hd dc) h0 (ht.ext aol)) (hk := ?_);rintro aqq aqr aow rfl;have kx := be aow.2 kx;have r8 := be aow.2 r8;have sc := be aow.2 sc;have aol := xt aol aow.2;refine go ?_;refine SA sc (fun aqs aox apd => ?_);have kx := pb aox kx;have r8 := pb aox r8;have aol := plw aox aol;have aqt := psz aox;refine go ?_;refine f_out (v := .agg #[S (nS ((a.1 * n) / d)), S (nS (upn (a.2 * n) d))]) (res1  rfl ?_) aol rfl;refine res_cellA (t := 8) (cs := [S (nS ((a.1 * n) / d)), S (nS (upn (a.2 * n) d))]) (b := ao7.heap.size) (o := 0) U1056 rfl sz1056 ?_ ?_;exact rfl;exact Blk.cells apd (i := 0) rfl
end Go.Proofs.YtjijfnggomhpiaaGreatDoor
namespace Go.Proofs.YtjijfnggomhpiaaGreatDoor
open Go Go.Eng Go.RowKit
structure Stab (n : Nat) (I : World → Prop) : Prop where
  ext : ∀ {A B : World}, Ext A B → I A → I B
  put : ∀ {A B : World} {b : Nat}, Put A B b → n ≤ b → I A → I B
structure KpC (bs : List Nat) (W W' : World) : Prop where
  size : W.heap.size ≤ W'.heap.size
  blk : ∀ {b : Nat} {t : TypeId} {cs : Array Value}, b ∉ bs → Blk W b t cs → Blk W' b t cs
theorem KpC.trans {bs : List Nat} {A B C : World} (h : KpC bs A B) (k : KpC bs B C) : KpC bs A C := ⟨Nat.le_trans h.size k.size, fun hn hb => k.blk hn (h.blk hn hb)⟩
theorem KpC.of {bs : List Nat} {A B : World} (h : Keeps bs A B) : KpC bs A B := ⟨h.size, fun hn hb => h.blk hn hb⟩
theorem KpC.putObj {bs : List Nat} {A : World} {b : Nat} {r r' : Loop} (h : A.heap[b]? = some (.loop r)) : KpC bs A (A.putObj b (.loop r')) :=
  ⟨by simp, fun {c t cs} _ hb => (World.putObj_heap_other (fun e => by subst e; unfold Blk at hb; rw [h] at hb; cases hb)).trans hb⟩
theorem put_putObj (W : World) (b : Nat) (o : Obj) : Put W (W.putObj b o) b := ⟨rfl, rfl, rfl, by simp, fun k hk => World.putObj_heap_other hk⟩
def IterM (P : Program) (gf : Nat) (lb : List Value) (enc : Nat → List Value) (bs : List Nat) (Kq : World → Prop) (M : Nat) (w : World) : Prop :=
  ∀ (l : Nat) (J Jx : Nat → World → Prop) (W : World), Below w.heap.size w W → (∀ k, Stab W.heap.size (J k)) → (∀ k, Stab W.heap.size (Jx k)) → (∀ k W1, J k W1 → k < M) →
    (∀ k W1, J k W1 → YieldAt Fence.wide 7 P l (enc k).toArray W1 fun e W' => (e = .returned (.bool true) ∧ J (k + 1) W' ∧ KpC bs W1 W' ∧ (Kq W1 → Kq W')) ∨ (e = .returned (.bool false) ∧ Jx (k + 1) W')) →
    J 0 W → CallsIn Fence.wide 8 P gf (#[.func (.yield l) #[] #[]] ++ lb.toArray) W fun e W' => (∃ v, e = .returned v) ∧ ∃ k, Jx k W'
def rndM (bs : List Nat) (Kq : World → Prop) (I : Nat → World → Prop) (Ix : Code → Nat → World → Prop) (k : Nat) (W : World) : Exit → Act → World → Prop
  | .normal, _, W' => KeepsOthers W W' ∧ KpC bs W W' ∧ (Kq W → Kq W') ∧ I k W'
  | .ret, _, W' => KeepsOthers W W' ∧ Ix .ret k W'
  | .exit id, _, W' => KeepsOthers W W' ∧ Ix (.exit id) k W'
  | _, _, _ => False
def BkM (W : World) (b : Nat) (r : Loop) : Prop := W.heap[b + 1]? = some (.loop r) ∧ W.heap[b]? = some (.deferred (some []))
theorem BkM.put {W : World} {b : Nat} {r : Loop} (h : BkM W b r) (r' : Loop) : BkM (W.putObj (b + 1) (.loop r')) b r' :=
  ⟨World.putObj_heap_same (Array.getElem?_eq_some_iff.1 h.1).1, (World.putObj_heap_other (by omega)).trans h.2⟩
theorem BkM.kept {W W' : World} {b : Nat} {r : Loop} (h : BkM W b r) (k : KeepsOthers W W') : BkM W' b r := ⟨k.same _ _ h.1 rfl, k.same _ _ h.2 rfl⟩
theorem BkM.stab {b n : Nat} {r : Loop} (h : b + 1 < n) : Stab n fun W => BkM W b r :=
  ⟨fun k h => ⟨k.heap h.1, k.heap h.2⟩, fun k hb h => ⟨(k.block _ (by omega)).trans h.1, (k.block _ (by omega)).trans h.2⟩⟩
theorem Stab.and {n : Nat} {I J : World → Prop} (h : Stab n I) (k : Stab n J) : Stab n fun W => I W ∧ J W := ⟨fun e x => ⟨h.ext e x.1, k.ext e x.2⟩, fun e l x => ⟨h.put e l x.1, k.put e l x.2⟩⟩
theorem Stab.ex {α : Type} {n : Nat} {I : α → World → Prop} (h : ∀ a, Stab n (I a)) : Stab n fun W => ∃ a, I a W := ⟨fun e ⟨a, x⟩ => ⟨a, (h a).ext e x⟩, fun e l ⟨a, x⟩ => ⟨a, (h a).put e l x⟩⟩
theorem Stab.mono {n m : Nat} {I : World → Prop} (h : Stab n I) (hl : n ≤ m) : Stab m I := ⟨h.ext, fun k hb => h.put k (Nat.le_trans hl hb)⟩
theorem c_rangeM {P : Program} {w : World} {N : Nat} {e : Nat → Value} {ds : List Deferred} {Q : Exit → Act → World → Prop} {M : Nat} {enc : Nat → List Value} {bs : List Nat} {Kq : World → Prop} {gf : Nat} {lb : List Value} {g : Operand} {ps : List Nat} {assign body : Code}
    (hg : ev N e g = .func (.func gf) #[] lb.toArray) (eg : Enters P gf) (hit : IterM P gf lb enc bs Kq M w)
    (hKq : Stab w.heap.size Kq) (hps : ∀ i, (enc i).length = ps.length)
    (I : Nat → World → Prop) (Ix : Code → Nat → World → Prop) (hI : ∀ k, Stab w.heap.size (I k)) (hIx : ∀ c k, Stab w.heap.size (Ix c k)) (hM : ∀ k W, I k W → k < M) (h0 : I 0 w)
    (A : (Nat → Value) → Nat → (Nat → Value) → World → Prop) (hA : ∀ k e' W b r r', w.heap.size ≤ b → W.heap[b]? = some (.loop r) → A e k e' W → A e k e' (W.putObj b (.loop r')))
    (hassign : ∀ l k W K, I k W → (∀ e' W', Ext W W' → A e k e' W' → K (act N e' []) W') → assign.wpIn (Fw (some l)) 7 P (Exit.then K (fun _ _ _ => False)) (act N (updL e ps (enc k)) []) W)
    (hbody : ∀ l k e' W, A e k e' W → body.wpIn (Fw (some l)) 7 P (rndM bs Kq I Ix (k + 1) W) (act N e' []) W)
    (hstop : ∀ D c k W, w.heap.size ≤ D → Ix c k W → Dfr W D → c.wpIn (Fw none) 9 P Q (act N e (⟨.collected D, #[]⟩ :: ds)) W) :
    (Code.rangeFunc g ps.toArray assign body).wpIn (Fw none) 9 P Q (act N e ds) w := by
  refine wpIn_rangeFunc (F := Fence.wide) (n := 9) fun fn hfn => ?_
  obtain ⟨R, hR⟩ : ∃ R : LoopState → Option Code → Loop, R = fun st pe => { state := st, pending := pe, fn, tmps := (act N e ds).tmps, params := ps.toArray, assign, body, defers := w.heap.size } := ⟨_, rfl⟩
  obtain ⟨V, hV⟩ : ∃ V, (w.alloc (.deferred (some []))).alloc (.loop (R .ready none)) = V := ⟨_, rfl⟩
  have hB : BkM V w.heap.size (R .ready none) := by
    refine ⟨?_, ?_⟩ <;> rw [← hV]
    · have h := World.alloc_heap_new (w.alloc (.deferred (some []))) (.loop (R .ready none)); rwa [World.size_alloc] at h
    · exact (Below.heap_alloc _ _ _ (by simp)).trans (World.alloc_heap_new w _)
  have hsz : w.heap.size + 1 < V.heap.size := by rw [← hV]; simp
  have hbl : Below w.heap.size w V := by rw [← hV]; exact ((Below.refl _ w).alloc (Nat.le_refl _) _).alloc (by simp) _
  have hI0 : I 0 V := (hI 0).ext hbl h0
  refine ⟨w.heap.size + 1, [⟨.collected w.heap.size, #[]⟩], V, ⟨.fn (.func gf) lb.toArray, #[.func (.yield (w.heap.size + 1)) #[] #[]]⟩, V, gf, #[.func (.yield (w.heap.size + 1)) #[] #[]] ++ lb.toArray, V, ?_, ?_, ?_, ?_, fun _ => by omega, ?_⟩
  · rw [← hV, hR]; exact run_enterLoop_outer _ _ _ _ _
  · have hg' : (act N e ds).eval g = .func (.func gf) #[] lb.toArray := by rw [act_eval]; exact hg
    simp only [resolve, hg']; simp [go_sem]
  · intro f' _; trivial
  · simp [invoke, go_sem]; exact eg _ _
  refine (hit (w.heap.size + 1) (fun k W => I k W ∧ BkM W w.heap.size (R .ready none)) (fun k W => ∃ c, Ix c k W ∧ BkM W w.heap.size (R .done (some c))) V hbl
    (fun k => ((hI k).mono (by omega)).and (BkM.stab hsz)) (fun k => Stab.ex fun c => ((hIx c k).mono (by omega)).and (BkM.stab hsz)) (fun k W h => hM k W h.1) ?_ ⟨hI0, hB⟩).mono ?_
  ·
    rintro k W ⟨hi, hk⟩
    have hy := run_yield (P := P) (args := (enc k).toArray) hk.1 (by rw [hR]; simpa using hps k)
    rw [hR] at hy
    refine ⟨fn, _, assign, body, hy, roundIn_of_wpIn hfn ?_⟩
    have hfold : (⟨(ps.toArray.zip (enc k).toArray).foldl (fun t (p, v) => t.setIfInBounds p v) (act N e ds).tmps, []⟩ : Act) = act N (updL e ps (enc k)) [] := by
      have h := act_fold N ps (enc k) e
      have h2 : act N (updL e ps (enc k)) [] = ⟨(act N (updL e ps (enc k)) []).tmps, []⟩ := rfl
      rw [h2, ← h]
      simp only [List.zip_toArray, List.foldl_toArray]
      rfl
    rw [hfold]
    refine hassign (w.heap.size + 1) k W _ hi fun e' W' hx ha => ?_
    have hk : BkM W' w.heap.size (R .ready none) := ⟨hx.heap hk.1, hx.heap hk.2⟩
    refine ⟨_, run_beginRound hk.1 (by rw [hR]), ?_⟩
    have hk2 := hk.put { R .ready none with state := .busy }
    refine wpIn_mono (hbody (w.heap.size + 1) k e' _ (hA k e' _ _ _ _ (by omega) hk.1 ha)) ?_
    have hkx : KpC bs W W' := ⟨hx.size, fun _ h => h.ext hx⟩
    have fin : ∀ (j : Option Code) (W3 : World), KeepsOthers (W'.putObj (w.heap.size + 1) (.loop { R .ready none with state := .busy })) W3 →
        BkM W3 w.heap.size { R .ready none with state := .busy } ∧ (Instr.endRound (w.heap.size + 1) j).run P W3 = .ok (.bool j.isNone) (W3.putObj (w.heap.size + 1) (.loop (R (if j.isNone then .ready else .done) j))) := fun j W3 h3 => by
      have h4 := hk2.kept h3
      refine ⟨h4, ?_⟩
      have h5 := run_endRound (P := P) j h4.1
      rw [hR] at h5 ⊢
      exact h5
    rintro x a3 W3 hp
    cases x with
    | normal =>
      obtain ⟨h1, h1', h2, h3⟩ := hp
      obtain ⟨h4, h5⟩ := fin none W3 h1
      exact ⟨_, _, h5, .inl ⟨rfl, ⟨(hI _).put (put_putObj _ _ _) (by omega) h3, h4.put _⟩, hkx.trans (((KpC.putObj hk.1).trans h1').trans (KpC.putObj h4.1)), fun h => hKq.put (put_putObj _ _ _) (by omega) (h2 (hKq.put (put_putObj _ _ _) (by omega) (hKq.ext hx h)))⟩⟩
    | ret =>
      obtain ⟨h1, h3⟩ := hp
      obtain ⟨h4, h5⟩ := fin (some .ret) W3 h1
      exact ⟨_, _, h5, .inr ⟨rfl, .ret, (hIx _ _).put (put_putObj _ _ _) (by omega) h3, h4.put _⟩⟩
    | exit id =>
      obtain ⟨h1, h3⟩ := hp
      obtain ⟨h4, h5⟩ := fin (some (.exit id)) W3 h1
      exact ⟨_, _, h5, .inr ⟨rfl, .exit id, (hIx _ _).put (put_putObj _ _ _) (by omega) h3, h4.put _⟩⟩
    | goto t => exact hp.elim
    | panic c => exact hp.elim
    | outgrown => exact hp.elim
  · rintro x W2 ⟨⟨v, rfl⟩, k, c, hi, hk⟩
    have h := run_endLoop (P := P) hk.1 (by rw [hR]; simp)
    rw [hR] at h
    refine ⟨some c, _, h, hstop _ c k _ (Nat.le_refl _) ((hIx c k).put (put_putObj _ _ _) (by omega) hi) (hk.put _).2⟩
end Go.Proofs.YtjijfnggomhpiaaGreatDoor
namespace Go.Proofs.YtjijfnggomhpiaaGreatDoor
set_option maxRecDepth 100000
open Go Go.Eng Go.RowKit
attribute [local irreducible] wpListIn Code.wpIn Oper.wpIn Exit.then Exit.inBlock Exit.noGoto
set_option maxHeartbeats 40000000
def vN (p : N2) : Value := .agg #[S (nS p.1), S (nS p.2)]
def fv (g : Nat) (lb : Array Value) : Value := .func (.func g) #[] lb
def SeqV (t0 : N2) (f : Value) (W : World) (v : Value) : Prop := ∃ b1 b2, v = .func (.func 139) #[] #[.pointer (some ⟨b1, 0, none⟩), .pointer (some ⟨b2, 0, none⟩)] ∧ Blk W b1 72 #[S (nS t0.1), S (nS t0.2)] ∧ Blk W b2 118 #[f]
theorem SeqV.ext {t0 : N2} {f v : Value} {A B : World} (k : Ext A B) (h : SeqV t0 f A v) : SeqV t0 f B v := by
  obtain ⟨b1, b2, e, h1, h2⟩ := h
  exact ⟨b1, b2, e, h1.ext k, h2.ext k⟩
def lastB (q : Bool) (t l : N2) : Bool := q && (decide (t.2 ≤ 2) && decide (t.2 * 2 ≤ l.2 + 2))
section
variable {q : Bool} {t l : N2}
theorem lb_0 (h : q = false) : Value.bool q = .bool (lastB q t l) := by subst h; rfl
theorem lb_1 (h : q = true) (h1 : ¬ cmpI ((t.2 : Nat) : Int) ((2 : Nat) : Int) ≤ 0) : Value.bool false = .bool (lastB q t l) := by
  rw [cmpI_nonpos] at h1; subst h; unfold lastB; rw [decide_eq_false om]; rfl
theorem lb_2 (h : q = true) (h1 : cmpI ((t.2 : Nat) : Int) ((2 : Nat) : Int) ≤ 0) : Value.bool (decide (cmpI (((t.2 * 2 : Nat)) : Int) (((l.2 + 2 : Nat)) : Int) ≤ 0)) = .bool (lastB q t l) := by
  rw [cmpI_nonpos] at h1; subst h; unfold lastB; rw [decide_eq_true (show t.2 ≤ 2 by omega), Bool.true_and, Bool.true_and]
  congr 1; rw [decide_eq_decide, cmpI_nonpos]; omega
end
def lstP (T : Nat → N2) : Nat → N2
  | 0 => (0, 0)
  | k + 1 => T k
theorem SumR.last {T : Nat → N2} {m k : Nat} (h : SumR T m) (hk : k ≤ m) : lastB (decide (k ≠ 0)) (T k) (lstP T k) = decide (k = m) := by
  unfold lastB
  by_cases e : k = m
  · subst e
    have hp := h.pos
    obtain ⟨p, rfl⟩ : ∃ p, k = p + 1 := ⟨k - 1, by omega⟩
    have := h.stop
    rw [decide_eq_true om, decide_eq_true this.1, decide_eq_true (show (T (p + 1)).2 * 2 ≤ (lstP T (p + 1)).2 + 2 from this.2), decide_eq_true rfl]; rfl
  · rw [decide_eq_false e]
    rcases h.go k om with h0 | h0
    · rw [decide_eq_false om]; rfl
    · cases k with
      | zero => rfl
      | succ p =>
        have h1 : ¬ ((T (p + 1)).2 ≤ 2 ∧ (T (p + 1)).2 * 2 ≤ (lstP T (p + 1)).2 + 2) := h0
        by_cases h2 : (T (p + 1)).2 ≤ 2
        · rw [decide_eq_false (fun e => h1 ⟨h2, e⟩)]; simp
        · rw [decide_eq_false h2]; simp
theorem cmpN {a b : Nat} {w : World} {l m : List UInt8} (hl : l = nS a) (hm : m = nS b) (ha : Fi a) (hb : Fi b) : Calls Tryz.prog 32 #[S l, S m] w (Ret w fun v _ => v = .int .i64 (cmpI (a : Int) (b : Int))) := by
  subst hl hm
  exact cEq (iCmp_ok _ _ _) (congrArg (Value.int .i64) (cmpS_Z ha.z hb.z))
theorem spWhole0_ok {sO pl : Nat} {w : World} (hS : Sc sO) (ht : Tb w) : Calls Tryz.prog 48 #[.agg #[.int .i64 pl, S (nS sO)], .int .i64 0] w (Ret w fun v _ => v = .agg #[S (nS 0), S (nS 0)]) := by
  have h := spWhole_ok (n := 0) (pl := pl) hS dc (by rw [Nat.zero_mul]; unfold Fi; decide) ht
  simp only [Nat.zero_mul] at h
  exact h
theorem terms_ok {t0 : N2} {g : Nat} {lb : Array Value} {w : World} :
    Calls Tryz.prog 95 #[.agg #[S (nS t0.1), S (nS t0.2)], .func (.func g) #[] lb] w (Ret w fun v w' => SeqV t0 (fv g lb) w' v) := by
 refine f_in Tryz.func95 rfl ?_;refine go ?_;refine bx (fun kx aom r8 => ?_);have sc := aom.2;refine bx (v := .func (.func g) #[] lb) (hx := rfl) (fun aoo aol aon => ?_);have r8 := be aol.2 r8;have sc := xt sc aol.2;refine l_op (k_assign (v := .nilFunc) rfl ?_);refine go ?_;refine l_op (k_makeFunc (vf := []) (vc := [.pointer (some ⟨w.heap.size, 0, none⟩), .pointer (some ⟨kx.heap.size, 0, none⟩)]) rfl rfl ?_);refine go ?_;exact f_ret1 (t := 4) (v := .func (.func 139) #[] #[.pointer (some ⟨w.heap.size, 0, none⟩), .pointer (some ⟨kx.heap.size, 0, none⟩)]) rfl sc ⟨_, _, rfl, r8, aon⟩ rfl
theorem last_ok {b1 b2 : Nat} {q : Bool} {t l : N2} {w : World} (h1 : Blk w b1 4 #[.bool q]) (h2 : Blk w b2 72 #[S (nS l.1), S (nS l.2)]) (ht2 : Bk 99 t) (hl : Bk 99 l) (ht : Tb w) :
    Calls Tryz.prog 138 #[.agg #[S (nS t.1), S (nS t.2)], .pointer (some ⟨b1, 0, none⟩), .pointer (some ⟨b2, 0, none⟩)] w (Ret w fun v w' => v = .bool (lastB q t l)) := by
 have ft := (ht2.fi dc).2;have f2 : Fi (t.2 * 2) := by have := ht2.2; unfold Fi; omega
 have fl : Fi (l.2 + 2) := by have := hl.2; unfold Fi; omega
 refine f_in Tryz.func138 rfl ?_;refine go ?_;refine bx (fun ap2 aov kx => ?_);have h1 := be aov.2 h1;have h2 := be aov.2 h2;have aol := aov.2;refine go ?_;rcases Bool.eq_false_or_eq_true (q) with r8 | r8;by_cases sc : (cmpI (((t.2 : Nat)) : Int) (((2 : Nat)) : Int)) ≤ 0;refine c_an 13 ?_;refine sf ?_;refine sf_ae (V := .int .i64 (cmpI (((t.2 : Nat)) : Int) (((2 : Nat)) : Int))) (fun aqf aqg ao0 aqh => ?_) ?_;refine go ?_;refine clb en84 (hc := cmpN rfl lit2 ft (fi_pow (k := 1) dc dc)) (hk := ?_);rintro aqi aqj aom rfl;have apz := aom.2;refine go ?_;exact fs ⟨apz, rfl⟩;refine sf ?_;refine sf_ae (V := S (nS (t.2 * 2))) (fun aqz aq0 aon aq1 => ?_) ?_;refine go ?_;refine clb en1043 (hc := nMul_ok rfl lit2 ft (fi_pow (k := 1) dc dc) f2 (ht.ext (xt aol aon))) (hk := ?_);rintro aq2 aq3 aoo rfl;have ap0 := aoo.2;refine go ?_;exact fs ⟨ap0, rfl⟩;refine sf ?_;intro ara arb aop arc;have aol := xt aol aop.2;with_reducible refine l_drop rfl ?_
 refine go ?_;refine cl en1045 (nAdd_ok rfl lit2 fl (ht.ext aol)) ?_;rintro ard arf aoq rfl;have aol := xt aol aoq.2;refine go ?_;refine cl en84 (cmpN rfl rfl f2 fl) ?_;rintro arh ari aor rfl;have aol := xt aol aor.2;refine go ?_;exact f_ret1 (t := 4) (v := .bool (decide ((cmpI (((t.2 * 2 : Nat)) : Int) (((l.2 + 2 : Nat)) : Int)) ≤ 0))) rfl aol (lb_2 r8 sc) rfl;refine c_an 13 ?_;refine sf ?_;refine sf_ae (V := .int .i64 (cmpI (((t.2 : Nat)) : Int) (((2 : Nat)) : Int))) (fun arv arw apc arx => ?_) ?_;refine go ?_;refine clb en84 (hc := cmpN rfl lit2 ft (fi_pow (k := 1) dc dc)) (hk := ?_);rintro ary arz aos rfl;have ap1 := aos.2;refine go ?_;exact fs ⟨ap1, rfl⟩;refine sf ?_;intro asp asq aot asr;have aol := xt aol aot.2;with_reducible refine l_drop rfl ?_
 refine go ?_;exact f_ret1 (t := 4) (v := .bool (false)) rfl aol (lb_1 r8 sc) rfl;refine c_an 13 ?_;refine sf ?_;intro atw atx aou aty;have aol := xt aol aou.2;with_reducible refine l_drop rfl ?_
 refine go ?_;exact f_ret1 (t := 4) (v := .bool (false)) rfl aol ((congrArg Value.bool r8).symm.trans (lb_0 r8)) rfl
theorem cArr {P : Program} {f : FuncId} {vs : List Value} {lb : Array Value} {w : World} {R : Ending → World → Prop} (h : Calls P f (vs.toArray ++ lb) w R) : Calls P f (vs ++ lb.toList).toArray w R := by rw [show (vs ++ lb.toList).toArray = vs.toArray ++ lb from Array.toList_inj.1 (by simp)]; exact h
theorem terms_iter {T : Nat → N2} {m gn b1 b2 : Nat} {lbn : Array Value} {bs : List Nat} {w0 w : World} (E : Ext w0 w) (h1 : Blk w0 b1 72 #[S (nS (T 0).1), S (nS (T 0).2)]) (h2 : Blk w0 b2 118 #[fv gn lbn]) (hbs : ∀ b ∈ bs, w0.heap.size ≤ b ∧ b < w.heap.size) (hen : Enters Tryz.prog gn)
    (hm : m < 100000) (hn : ∀ k < m, ∀ W, Ext w0 W → Calls Tryz.prog gn (#[vN (T k), .int .i64 ((k + 1 : Nat) : Int)] ++ lbn) W (Ret W fun v _ => v = vN (T (k + 1)))) :
    IterM Tryz.prog 139 [.pointer (some ⟨b1, 0, none⟩), .pointer (some ⟨b2, 0, none⟩)] (fun k => [vN (T k)]) bs (fun W => Ext w0 W) (m + 1) w := by
 intro l J Jx W hW hJ0 hJx0 hM hY h0;have E := xt E hW;have zE := bz E;have hbw := bt h1;have hbw2 := bt h2;have h1 := be E h1;have h2 : Blk W b2 118 #[.func (.func gn) #[] lbn] := be E h2;have hw0 := bz hW;obtain ⟨hW0, hWe⟩ : ∃ n, n = W.heap.size := ⟨_, rfl⟩;refine iter_args ?_;have zW := bz hW;refine f_inI Tryz.func139 rfl ?_;refine go ?_;have ao8 := bt h1;have ao9 := bt h2;refine c_an 3 ?_;refine sf_ap (fun apa apb aot apc => by have h1 := be aot h1;have h0 := (hJ0 _).ext aot h0;refine go ?_;exact finp) ?_;refine sf_ah (fun v wz => ∃ b : Nat, v = .pointer (some ⟨b, 0, none⟩) ∧ W.heap.size ≤ b ∧ Blk wz b 72 #[S ([]), S ([])]) (hs := fun _ _ _ k ⟨b, e, l, h⟩ => ⟨b, e, l, h.ext k⟩) (fun apd ape aop apf => ?_) ?_;have h0 := (hJ0 _).ext aop h0;refine al inf1056 (fun apg aoq ao1 => ?_);have h0 := (hJ0 _).ext aoq.2 h0;have ao2 := aoq.2;refine go ?_;exact fs ⟨ao2, ⟨_, rfl, (by have := bz aop; omega), ao1⟩⟩;refine sf_ap (fun aph api aou apj => by have h0 := (hJ0 _).ext aou h0;refine go ?_;exact finp) ?_;refine sf ?_;intro apk apl aor ao3;have h1 := be aor.2 h1;have h2 := be aor.2 h2;have h0 := (hJ0 _).ext aor.2 h0;have E := xt E aor.2;obtain ⟨aov, aow, apm, aox⟩ := (ao3 1 5 rfl rfl);have apn := bt aox;refine SA aox (fun apo sc ao4 => ?_);have h1 := pb sc h1;have h2 := pb sc h2;have h0 := (hJ0 _).put sc om h0;have E := plw sc E;have apq := psz sc
 refine go ?_;refine c_lp [(4, 5), (7, 16)] (fun kk e W => ∃ k : Nat, ∃ bq : Nat, (m + 1 - k = kk) ∧ (e 4 = .int .i64 (((k + 1 : Nat) : Int))) ∧ (e 5 = .pointer (some ⟨bq, 0, none⟩)) ∧ (hW0 ≤ bq) ∧ (Ext w0 W) ∧ (Blk W (b1) 72 #[S (nS ((T 0).1)), S (nS ((T 0).2))]) ∧ (Blk W (b2) 118 #[.func (.func gn) #[] lbn]) ∧ (Blk W (bq) 72 #[S (nS ((T k).1)), S (nS ((T k).2))]) ∧ (J k W)) (m + 1 - (0)) ⟨0, aov, rfl, rfl, aow, om, E, h1, h2, ao4, h0⟩ ?_;rintro apr aps ao5 ⟨k, bq, rfl, aoy, aos, q2, kx, h1, h2, hbt, q1⟩;have apt := bz kx;have hkM := hM _ _ q1;have zbt := bt hbt;refine go ?_;refine l_op (k_yield (l := l) (vs := [vN (T k)]) rfl (cons_eq rfl rfl) (hY k ao5 q1) ?_);rintro cc apu hcc;obtain ⟨q, rfl, hj1, hj2⟩ := yield_cases hcc;show wpListIn _ _ _ _ _ _ _ _;refine go ?_;refine c_split (q := q) rfl (fun aoz => ?_) (fun aoz => ?_);obtain ⟨hJ, hC, hK⟩ := hj1 aoz;have h1 := hC.blk (fun h => by have := hbs _ h; omega) h1;have h2 := hC.blk (fun h => by have := hbs _ h; omega) h2;have hbt := hC.blk (fun h => by have := hbs _ h; omega) hbt;have kx := hK kx;have zC := hC.size;have hkm := hM _ _ hJ;have apv := bz kx;refine go ?_;refine l_op (clV (vs := [.agg #[S (nS ((T k).1)), S (nS ((T k).2))], .int .i64 (((k + 1 : Nat)) : Int)]) (lb := lbn.toList) hen rfl rfl (cArr (hn k om _ kx)) ?_);rintro apw apx aol rfl;have h1 := be aol.2 h1;have h2 := be aol.2 h2;have hbt := be aol.2 hbt;have hJ := (hJ0 _).ext aol.2 hJ;have kx := xt kx aol.2
 refine SA hbt (fun ao0 aom aon => ?_);have h1 := pb aom h1;have h2 := pb aom h2;have hJ := (hJ0 _).put aom om hJ;have kx := plw aom kx;have apy := psz aom;refine go ?_;refine al inf1056 (fun apz aoo ao6 => ?_);have h1 := be aoo.2 h1;have h2 := be aoo.2 h2;have aon := be aoo.2 aon;have hJ := (hJ0 _).ext aoo.2 hJ;have kx := xt kx aoo.2;refine SA ao6 (fun ap0 r8 ao7 => ?_);have h1 := pb r8 h1;have h2 := pb r8 h2;have aon := pb r8 aon;have hJ := (hJ0 _).put r8 om hJ;have kx := plw r8 kx;have ap1 := psz r8;refine go ?_;refine adi ?_;refine go ?_;exact lend ⟨k + 1, ao0.heap.size, rfl, rfl, rfl, om, kx, h1, h2, ao7, hJ⟩;refine go ?_;exact f_end0I rfl fun v => ⟨⟨v, rfl⟩, _, hj2 (by assumption)⟩
end Go.Proofs.YtjijfnggomhpiaaGreatDoor
namespace Go.Proofs.YtjijfnggomhpiaaGreatDoor
open Go Go.Eng Go.RowKit
attribute [local irreducible] wpListIn Code.wpIn Oper.wpIn Exit.then Exit.inBlock Exit.noGoto
set_option maxHeartbeats 40000000
theorem bk_last {T : Nat → N2} {m k : Nat} (h : SumR T m) (hk : k ≤ m) : Bk 99 (lstP T k) := by
  cases k with
  | zero => exact ⟨by simp [lstP], by simp [lstP]⟩
  | succ p => exact (h.bd p om).mono dc
set_option maxRecDepth 100000 in
theorem sum_ok {T : Nat → N2} {m gn b1 b2 sO pl : Nat} {lbn : Array Value} {w : World} (hR : SumR T m) (hS : Sc sO) (hB1 : Blk w b1 72 #[S (nS (T 0).1), S (nS (T 0).2)]) (hB2 : Blk w b2 118 #[fv gn lbn]) (hen : Enters Tryz.prog gn) (hn : ∀ k < m, ∀ W, Ext w W → Calls Tryz.prog gn (#[vN (T k), .int .i64 ((k + 1 : Nat) : Int)] ++ lbn) W (Ret W fun v _ => v = vN (T (k + 1)))) (ht : Tb w) :
    Calls Tryz.prog 94 #[.agg #[.int .i64 pl, S (nS sO)], .func (.func 139) #[] #[.pointer (some ⟨b1, 0, none⟩), .pointer (some ⟨b2, 0, none⟩)]] w (Ret w fun v w' => v = .agg #[S (nS ((resP T m).1)), S (nS ((resP T m).2))]) := by
 refine f_inM Tryz.func94 rfl ?_;refine go ?_;refine bx (fun aos ari aqo => ?_);have r8 := ari.2;refine al inf1056 (fun ap5 aq0 arj => ?_);have aqo := be aq0.2 aqo;have r8 := xt r8 aq0.2;refine go ?_;have aqb := Ext.drew ap5;refine c_st2 hmix 7 (fun e0 ls e W => ∃ sc : Nat, ∃ aol : Nat, ∃ aom : Nat, (∀ t, inB [5, 6, 7, 10, 11, 12, 13] t = false → e t = e0 t) ∧ (Ext w W) ∧ (ap5.heap.size ≤ W.heap.size) ∧ (ls 0 = true → e 10 = .agg #[.int .i64 pl, S (nS sO)]) ∧ (ls 1 = true → e 11 = .agg #[S (nS 0), S (nS 0)]) ∧ (ls 2 = true → e 12 = .agg #[.int .i64 pl, S (nS sO)]) ∧ (ls 3 = true → e 13 = .agg #[S (nS 0), S (nS 0)]) ∧ (ls 4 = true → e 5 = .pointer (some ⟨sc, 0, none⟩)) ∧ (ls 5 = true → e 6 = .pointer (some ⟨aol, 0, none⟩)) ∧ (ls 6 = true → e 7 = .pointer (some ⟨aom, 0, none⟩)) ∧ (ls 4 = true → ap5.heap.size ≤ sc) ∧ (ls 5 = true → ap5.heap.size ≤ aol) ∧ (ls 6 = true → ap5.heap.size ≤ aom) ∧ (ls 4 = true → ls 5 = true → sc ≠ aol) ∧ (ls 4 = true → ls 6 = true → sc ≠ aom) ∧ (ls 5 = true → ls 6 = true → aol ≠ aom) ∧ (Blk W (w.heap.size) 70 #[.int .i64 pl, S (nS sO)]) ∧ (Blk W (aos.heap.size) 72 #[S ([]), S ([])]) ∧ (ls 4 = true → Blk W (sc) 72 #[S ([]), S ([])]) ∧ (ls 5 = true → Blk W (aol) 72 #[S ([]), S ([])]) ∧ (ls 6 = true → Blk W (aom) 4 #[.bool (false)])) ⟨0, 0, 0, (fun _ _ => rfl), (xt r8 aqb), (bz aqb), (ff rfl), (ff rfl), (ff rfl), (ff rfl), (ff rfl), (ff rfl), (ff rfl), (ff rfl), (ff rfl), (ff rfl), (fun h _ => ff rfl h), (fun h _ => ff rfl h), (fun h _ => ff rfl h), (be aqb aqo), (be aqb arj), (fun h  => ff rfl h), (fun h  => ff rfl h), (fun h  => ff rfl h)⟩ (by kernel_rfl) (by kernel_rfl) ?_ ?_
 refine ⟨fun atg aq1 aq2 ark aq3 arl ath => ?_, ?_⟩;obtain ⟨sc, aol, aom, aq4, r8, zst, aov, aow, aox, aoy, aoz, ao0, ao1, ao2, ao3, ao4, ao5, ao6, ao7, aot, aou, aop, aoq, aor⟩ := ark;obtain ⟨atg, rfl⟩ := ovE aq4;have arm : aq2 1 = false := (unl aq3 (i := 0) (j := 1) rfl arl);have ati : aq2 3 = false := (unl aq3 (i := 1) (j := 3) rfl arm);have atj := bz r8;have aqp : Blk aq1 (w.heap.size) 70 #[.int .i64 pl, S (nS sO)] := aot;have atk := bt aqp;have aq5 : Blk aq1 (aos.heap.size) 72 #[S ([]), S ([])] := aou;have atl := bt aq5;refine go ?_;exact ⟨rfl, _, (act_put _ _ _ _ _).symm, sc, aol, aom, (same_upd rfl aq4), r8, om, (fun _ => rfl), aow, aox, aoy, aoz, ao0, ao1, ao2, ao3, ao4, ao5, ao6, ao7, (aqp), (aq5), (fun arn => aop arn), (fun aro => aoq aro), (fun arp => aor arp)⟩;refine ⟨fun arq aq6 aq7 arr ars art aru => ?_, ?_⟩;obtain ⟨sc, aol, aom, arv, r8, zst, aov, aow, aox, aoy, aoz, ao0, ao1, ao2, ao3, ao4, ao5, ao6, ao7, aot, aou, aop, aoq, aor⟩ := arr;obtain ⟨arq, rfl⟩ := ovE arv;have arw : aq7 0 = true := (aru 0 rfl);have atm : aq7 3 = false := (unl ars (i := 1) (j := 3) rfl art);have arx : arq 10 = .agg #[.int .i64 pl, S (nS sO)] := aov arw;have atn := bz r8;have aqc : Blk aq6 (w.heap.size) 70 #[.int .i64 pl, S (nS sO)] := aot;have ato := bt aqc;have aqd : Blk aq6 (aos.heap.size) 72 #[S ([]), S ([])] := aou;have atp := bt aqd;refine cl en1030 (spWhole0_ok hS (ht.ext r8)) ?_ (cons_eq arx (cons_eq rfl rfl))
 rintro atq atr apv rfl;have aqc := be apv.2 aqc;have aqd := be apv.2 aqd;have r8 := xt r8 apv.2;refine go ?_;exact ⟨rfl, _, (act_put _ _ _ _ _).symm, sc, aol, aom, (same_upd rfl arv), r8, om, aov, (fun _ => rfl), aox, aoy, aoz, ao0, ao1, ao2, ao3, ao4, ao5, ao6, ao7, (aqc), (aqd), (fun ary => (be apv.2 (aop ary))), (fun arz => (be apv.2 (aoq arz))), (fun ar0 => (be apv.2 (aor ar0)))⟩;refine ⟨fun att aq8 ar1 ar2 ar3 ar4 atu => ?_, ?_⟩;obtain ⟨sc, aol, aom, aq9, r8, zst, aov, aow, aox, aoy, aoz, ao0, ao1, ao2, ao3, ao4, ao5, ao6, ao7, aot, aou, aop, aoq, aor⟩ := ar2;obtain ⟨att, rfl⟩ := ovE aq9;have atv : ar1 3 = false := (unl ar3 (i := 2) (j := 3) rfl ar4);have atw := bz r8;have aqq : Blk aq8 (w.heap.size) 70 #[.int .i64 pl, S (nS sO)] := aot;have atx := bt aqq;have ara : Blk aq8 (aos.heap.size) 72 #[S ([]), S ([])] := aou;have aty := bt ara;refine go ?_;exact ⟨rfl, _, (act_put _ _ _ _ _).symm, sc, aol, aom, (same_upd rfl aq9), r8, om, aov, aow, (fun _ => rfl), aoy, aoz, ao0, ao1, ao2, ao3, ao4, ao5, ao6, ao7, (aqq), (ara), (fun ar5 => aop ar5), (fun ar6 => aoq ar6), (fun ar7 => aor ar7)⟩;refine ⟨fun ar8 arb aqr ar9 asa atz arc => ?_, ?_⟩;obtain ⟨sc, aol, aom, asb, r8, zst, aov, aow, aox, aoy, aoz, ao0, ao1, ao2, ao3, ao4, ao5, ao6, ao7, aot, aou, aop, aoq, aor⟩ := ar9;obtain ⟨ar8, rfl⟩ := ovE asb;have asc : aqr 1 = true := (arc 1 rfl);have at0 : aqr 0 = true := (asa 1 0 rfl asc);have asd : aqr 2 = true := (arc 2 rfl)
 have ase : ar8 12 = .agg #[.int .i64 pl, S (nS sO)] := aox asd;have at1 := bz r8;have aqe : Blk arb (w.heap.size) 70 #[.int .i64 pl, S (nS sO)] := aot;have at2 := bt aqe;have aqf : Blk arb (aos.heap.size) 72 #[S ([]), S ([])] := aou;have at3 := bt aqf;refine cl en1030 (spWhole0_ok hS (ht.ext r8)) ?_ (cons_eq ase (cons_eq rfl rfl));rintro at4 at6 apw rfl;have aqe := be apw.2 aqe;have aqf := be apw.2 aqf;have r8 := xt r8 apw.2;refine go ?_;exact ⟨rfl, _, (act_put _ _ _ _ _).symm, sc, aol, aom, (same_upd rfl asb), r8, om, aov, aow, aox, (fun _ => rfl), aoz, ao0, ao1, ao2, ao3, ao4, ao5, ao6, ao7, (aqe), (aqf), (fun asf => (be apw.2 (aop asf))), (fun asg => (be apw.2 (aoq asg))), (fun ash => (be apw.2 (aor ash)))⟩;refine ⟨fun at7 aqs at8 asi at9 aua aub => ?_, ?_⟩;obtain ⟨sc, aol, aom, asj, r8, zst, aov, aow, aox, aoy, aoz, ao0, ao1, ao2, ao3, ao4, ao5, ao6, ao7, aot, aou, aop, aoq, aor⟩ := asi;obtain ⟨at7, rfl⟩ := ovE asj;have auc := bz r8;have aqg : Blk aqs (w.heap.size) 70 #[.int .i64 pl, S (nS sO)] := aot;have aud := bt aqg;have aqh : Blk aqs (aos.heap.size) 72 #[S ([]), S ([])] := aou;have aue := bt aqh;refine al inf1056 (fun auf ap6 ask => ?_);have aqg := be ap6.2 aqg;have aqh := be ap6.2 aqh;have r8 := xt r8 ap6.2;refine go ?_;exact ⟨rfl, _, (act_put _ _ _ _ _).symm, aqs.heap.size, aol, aom, (same_upd rfl asj), r8, om, aov, aow, aox, aoy, (fun _ => rfl), ao0, ao1, (fun _ => om), ao3, ao4, (fun _ asl => (by have := bt (aoq asl); omega)), (fun _ asm => (by have := bt (aor asm); omega)), ao7, (aqg), (aqh), (fun aug => ask), (fun aso => (be ap6.2 (aoq aso))), (fun asp => (be ap6.2 (aor asp)))⟩
 refine ⟨fun auh aqt aui asq auj auk aul => ?_, ?_⟩;obtain ⟨sc, aol, aom, asr, r8, zst, aov, aow, aox, aoy, aoz, ao0, ao1, ao2, ao3, ao4, ao5, ao6, ao7, aot, aou, aop, aoq, aor⟩ := asq;obtain ⟨auh, rfl⟩ := ovE asr;have aum := bz r8;have aqi : Blk aqt (w.heap.size) 70 #[.int .i64 pl, S (nS sO)] := aot;have aun := bt aqi;have aqj : Blk aqt (aos.heap.size) 72 #[S ([]), S ([])] := aou;have auo := bt aqj;refine al inf1056 (fun aup ap7 ass => ?_);have aqi := be ap7.2 aqi;have aqj := be ap7.2 aqj;have r8 := xt r8 ap7.2;refine go ?_;exact ⟨rfl, _, (act_put _ _ _ _ _).symm, sc, aqt.heap.size, aom, (same_upd rfl asr), r8, om, aov, aow, aox, aoy, aoz, (fun _ => rfl), ao1, ao2, (fun _ => om), ao4, (fun ast _ => (by have := bt (aop ast); omega)), ao6, (fun _ asu => (by have := bt (aor asu); omega)), (aqi), (aqj), (fun asv => (be ap7.2 (aop asv))), (fun auq => ass), (fun asw => (be ap7.2 (aor asw)))⟩;refine ⟨fun aur aqu aus asx aut auu auv => ?_, ?_⟩;obtain ⟨sc, aol, aom, asy, r8, zst, aov, aow, aox, aoy, aoz, ao0, ao1, ao2, ao3, ao4, ao5, ao6, ao7, aot, aou, aop, aoq, aor⟩ := asx;obtain ⟨aur, rfl⟩ := ovE asy;have auw := bz r8;have aqk : Blk aqu (w.heap.size) 70 #[.int .i64 pl, S (nS sO)] := aot;have aux := bt aqk;have aql : Blk aqu (aos.heap.size) 72 #[S ([]), S ([])] := aou;have auy := bt aql;refine al inf4 (fun auz ap8 asz => ?_);have aqk := be ap8.2 aqk;have aql := be ap8.2 aql
 have r8 := xt r8 ap8.2;refine go ?_;exact ⟨rfl, _, (act_put _ _ _ _ _).symm, sc, aol, aqu.heap.size, (same_upd rfl asy), r8, om, aov, aow, aox, aoy, aoz, ao0, (fun _ => rfl), ao2, ao3, (fun _ => om), ao5, (fun as0 _ => (by have := bt (aop as0); omega)), (fun as1 _ => (by have := bt (aoq as1); omega)), (aqk), (aql), (fun as2 => (be ap8.2 (aop as2))), (fun as3 => (be ap8.2 (aoq as3))), (fun au0 => asz)⟩;exact trivial;intro apk ap9 au1 aoo as4;obtain ⟨sc, aol, aom, aqv, r8, zst, aov, aow, aox, aoy, aoz, ao0, ao1, ao2, ao3, ao4, ao5, ao6, ao7, aot, aou, aop, aoq, aor⟩ := as4;obtain ⟨apk, rfl⟩ := ovE aqv;have au2 := bz r8;have au3 := ao2 (aoo 4 rfl);have au4 := ao3 (aoo 5 rfl);have au5 := ao4 (aoo 6 rfl);have au6 := ao5 (aoo 4 rfl) (aoo 5 rfl);have au7 := ao6 (aoo 4 rfl) (aoo 6 rfl);have au8 := ao7 (aoo 5 rfl) (aoo 6 rfl);have ao8 : Blk ap9 (w.heap.size) 70 #[.int .i64 pl, S (nS sO)] := aot;have au9 := bt ao8;have ao9 : Blk ap9 (aos.heap.size) 72 #[S ([]), S ([])] := aou;have ava := bt ao9;have ard : Blk ap9 (sc) 72 #[S ([]), S ([])] := aop (aoo 4 rfl);have avb := bt ard;have aqm : Blk ap9 (aol) 72 #[S ([]), S ([])] := aoq (aoo 5 rfl);have avc := bt aqm;have apx : Blk ap9 (aom) 4 #[.bool (false)] := aor (aoo 6 rfl);have avd := bt apx;have apy : apk 5 = .pointer (some ⟨sc, 0, none⟩) := (aoz (aoo 4 rfl));have as5 : apk 11 = .agg #[S (nS 0), S (nS 0)] := (aow (aoo 1 rfl));refine SA ard (fun ave apz apa => ?_)
 have ao8 := pb apz ao8;have ao9 := pb apz ao9;have aqm := pb apz aqm;have apx := pb apz apx;have r8 := plw apz r8;have avf := psz apz;have aqw : apk 6 = .pointer (some ⟨aol, 0, none⟩) := (ao0 (aoo 5 rfl));have as6 : apk 13 = .agg #[S (nS 0), S (nS 0)] := (aoy (aoo 3 rfl));refine SA aqm (fun avg ap0 apl => ?_);have ao8 := pb ap0 ao8;have ao9 := pb ap0 ao9;have apa := pb ap0 apa;have apx := pb ap0 apx;have r8 := plw ap0 r8;have avh := psz ap0;have aqx : apk 7 = .pointer (some ⟨aom, 0, none⟩) := (ao1 (aoo 6 rfl));refine SO apx (fun aqa ap1 ap2 => ?_);have ao8 := pb ap1 ao8;have ao9 := pb ap1 ao9;have apa := pb ap1 apa;have apl := pb ap1 apl;have r8 := plw ap1 r8;have avi := psz ap1;refine go ?_;refine l_op (k_makeFunc (vf := []) (vc := [.pointer (some ⟨aom, 0, none⟩), .pointer (some ⟨aol, 0, none⟩)]) rfl (cons_eq aqx (cons_eq aqw rfl)) ?_);refine al inf1136 (fun avj ap3 as7 => ?_);have ao8 := be ap3.2 ao8;have ao9 := be ap3.2 ao9;have apa := be ap3.2 apa;have apl := be ap3.2 apl;have ap2 := be ap3.2 ap2;have r8 := xt r8 ap3.2;refine SO as7 (fun aqn apq arf => ?_);have ao8 := pb apq ao8;have ao9 := pb apq ao9;have apa := pb apq apa;have apl := pb apq apl
 have ap2 := pb apq ap2;have r8 := plw apq r8;have avk := psz apq;refine go ?_;have avl := bt apa;have avm := bt apl;have avn := bt ap2;have avo := bt ao8;have avp := bt ao9;have avq := bt arf;refine c_rangeM (M := m + 1) (enc := fun k => [vN (T k)]) (bs := [sc, aol, aom]) (Kq := fun W => Ext w W) (gf := 139) (lb := [.pointer (some ⟨b1, 0, none⟩), .pointer (some ⟨b2, 0, none⟩)]) (ps := [16]) rfl en1113 (terms_iter (T := T) (m := m) r8 hB1 hB2 ?hbs hen (by have := hR.lt; omega) hn) ⟨fun kx E => xt E kx, fun kx hb E => plw kx E⟩ (fun _ => rfl) (fun k W => k ≤ m ∧ aqn.heap.size ≤ W.heap.size ∧ (Ext w W) ∧ (Blk W (sc) 72 #[S (nS ((totP T k).1)), S (nS ((totP T k).2))]) ∧ (Blk W (aol) 72 #[S (nS ((lstP T k).1)), S (nS ((lstP T k).2))]) ∧ (Blk W (aom) 4 #[.bool (decide (k ≠ 0))]) ∧ (Blk W (w.heap.size) 70 #[.int .i64 pl, S (nS sO)]) ∧ (Blk W (aos.heap.size) 72 #[S ([]), S ([])]) ∧ (Blk W (aqa.heap.size) 146 #[.func (.func 138) #[] #[.pointer (some ⟨aom, 0, none⟩), .pointer (some ⟨aol, 0, none⟩)]])) (fun c k W => c = .exit 0 ∧ aqn.heap.size ≤ W.heap.size ∧ (Ext w W) ∧ (Blk W (sc) 72 #[S (nS ((resP T m).1)), S (nS ((resP T m).2))]) ∧ (Blk W (w.heap.size) 70 #[.int .i64 pl, S (nS sO)]) ∧ (Blk W (aos.heap.size) 72 #[S ([]), S ([])]) ∧ (Blk W (aqa.heap.size) 146 #[.func (.func 138) #[] #[.pointer (some ⟨aom, 0, none⟩), .pointer (some ⟨aol, 0, none⟩)]])) (fun k => ⟨fun kx ⟨q1, zl, E, h0, h1, h2, h3, h4, h5⟩ => ⟨q1, Nat.le_trans zl (bz kx), xt E kx, be kx h0, be kx h1, be kx h2, be kx h3, be kx h4, be kx h5⟩, fun kx hb ⟨q1, zl, E, h0, h1, h2, h3, h4, h5⟩ => ⟨q1, (by rw [kx.size]; exact zl), plw kx E, pb kx h0, pb kx h1, pb kx h2, pb kx h3, pb kx h4, pb kx h5⟩⟩) (fun c k => ⟨fun kx ⟨q1, zl, E, h0, h1, h2, h3⟩ => ⟨q1, Nat.le_trans zl (bz kx), xt E kx, be kx h0, be kx h1, be kx h2, be kx h3⟩, fun kx hb ⟨q1, zl, E, h0, h1, h2, h3⟩ => ⟨q1, (by rw [kx.size]; exact zl), plw kx E, pb kx h0, pb kx h1, pb kx h2, pb kx h3⟩⟩) (fun k W h => by have := h.1; omega) ?h0 (fun e k e' W => ∃ nb : Nat, e' = upd (updL e [16] [vN (T k)]) 9 (.pointer (some ⟨nb, 0, none⟩)) ∧ aqn.heap.size ≤ nb ∧ Blk W nb 72 #[S (nS (T k).1), S (nS (T k).2)] ∧ (fun k W => k ≤ m ∧ aqn.heap.size ≤ W.heap.size ∧ (Ext w W) ∧ (Blk W (sc) 72 #[S (nS ((totP T k).1)), S (nS ((totP T k).2))]) ∧ (Blk W (aol) 72 #[S (nS ((lstP T k).1)), S (nS ((lstP T k).2))]) ∧ (Blk W (aom) 4 #[.bool (decide (k ≠ 0))]) ∧ (Blk W (w.heap.size) 70 #[.int .i64 pl, S (nS sO)]) ∧ (Blk W (aos.heap.size) 72 #[S ([]), S ([])]) ∧ (Blk W (aqa.heap.size) 146 #[.func (.func 138) #[] #[.pointer (some ⟨aom, 0, none⟩), .pointer (some ⟨aol, 0, none⟩)]])) k W) ?hA ?asn ?body ?stop
 case hbs =>
  intro b hb;simp only [List.mem_cons, List.not_mem_nil, or_false] at hb;rcases hb with rfl | rfl | rfl <;> constructor <;> omega
 case h0 =>
  exact ⟨Nat.zero_le _, Nat.le_refl _, r8, apa, apl, ap2, ao8, ao9, arf⟩
 case hA =>
  rintro k e' W b r r' hb hl ⟨nb, he, hnb, hbn, q1, zl, E, h0, h1, h2, h3, h4, h5⟩;have kx := put_putObj W b (.loop r');have hne : ∀ {c t cs}, Blk W c t cs → c ≠ b := fun h e => by subst e; unfold Blk at h; rw [hl] at h; cases h
  exact ⟨nb, he, hnb, Put.blk kx (hne hbn) hbn, q1, (by rw [kx.size]; exact zl), plw kx E, Put.blk kx (hne h0) h0, Put.blk kx (hne h1) h1, Put.blk kx (hne h2) h2, Put.blk kx (hne h3) h3, Put.blk kx (hne h4) h4, Put.blk kx (hne h5) h5⟩
 case asn =>
  rintro l k W K ⟨q1, zl, E, h0, h1, h2, h3, h4, h5⟩ hK;have EW := Ext.refl W;refine go ?_;refine al inf1056 (fun avr apm as9 => ?_);have h0 := be apm.2 h0;have h1 := be apm.2 h1;have h2 := be apm.2 h2;have h3 := be apm.2 h3;have h4 := be apm.2 h4;have h5 := be apm.2 h5;have E := xt E apm.2;have EW := xt EW apm.2;refine SA as9 (fun avs apb ata => ?_);have h0 := pb apb h0;have h1 := pb apb h1;have h2 := pb apb h2;have h3 := pb apb h3;have h4 := pb apb h4;have h5 := pb apb h5;have E := plw apb E;have avt := psz apb;have EW := plw apb EW;refine go ?_;exact hK _ _ EW ⟨_, rfl, om, ata, q1, (by have := bz EW; omega), E, h0, h1, h2, h3, h4, h5⟩
 case body =>
  rintro l k e' W ⟨nb, rfl, hnb, hbn, q1, zl, E, h0, h1, h2, h3, h4, h5⟩;have Kp := Keeps.refl [sc, aol, aom] W;have zW := bz E;have hkm := q1;have znb := bt hbn;have hc0 := Blk.isCells h0;have hc1 := Blk.isCells h1;have hc2 := Blk.isCells h2;have fT1 : Bk 99 (plP (totP T k) (T k)) := hR.tot (k := k + 1) om;refine go ?_;refine clb en1078 (hc := spPlus_ok (fT1.fi dc).1 (fT1.fi dc).2 (ht.ext E)) (hk := ?_);rintro avu avv apc rfl;have h0 := be apc.2 h0;have h1 := be apc.2 h1;have h2 := be apc.2 h2;have h3 := be apc.2 h3;have h4 := be apc.2 h4;have h5 := be apc.2 h5;have hbn := be apc.2 hbn;have E := xt E apc.2;have Kp := Keeps.ext Kp apc.2;refine SA h0 (fun avw apd aon => ?_);have h1 := pb apd h1;have h2 := pb apd h2;have h3 := pb apd h3;have h4 := pb apd h4;have h5 := pb apd h5;have hbn := pb apd hbn;have E := plw apd E;have Kp := Keeps.put Kp apd (by first | exact Or.inr om | exact Or.inl (by simp));have avx := psz apd;refine go ?_;refine l_op (clV (vs := [.agg #[S (nS ((T k).1)), S (nS ((T k).2))]]) (lb := [.pointer (some ⟨aom, 0, none⟩), .pointer (some ⟨aol, 0, none⟩)]) en1112 rfl rfl (cB (last_ok h2 h1 ((hR.bd k hkm).mono dc) (bk_last hR hkm) (ht.ext E)) (hR.last hkm)) ?_);rintro avy avz ape rfl;have aon := be ape.2 aon;have h1 := be ape.2 h1;have h2 := be ape.2 h2
  have h3 := be ape.2 h3;have h4 := be ape.2 h4;have h5 := be ape.2 h5;have hbn := be ape.2 hbn;have E := xt E ape.2;have Kp := Keeps.ext Kp ape.2;refine go ?_;by_cases aqy : k = m;refine go ?_;refine c_an 5 ?_;refine sf ?_;refine sf_ae (V := S (nS (((T k).2) + 4))) (fun awc awd apn awe => ?_) ?_;refine clb en1045 (hc := nAdd_ok rfl lit4 (by have := fT1.2; have := (hR.bd k hkm).2; simp only [plP] at *; unfold Fi; omega) (ht.ext (xt E apn))) (hk := ?_);rintro awf awg apo rfl;have atc := apo.2;refine go ?_;exact fs ⟨atc, rfl⟩;refine sf ?_;intro awh awi apf awj;have aon := be apf.2 aon;have h1 := be apf.2 h1;have h2 := be apf.2 h2;have h3 := be apf.2 h3;have h4 := be apf.2 h4;have h5 := be apf.2 h5;have hbn := be apf.2 hbn;have E := xt E apf.2;have Kp := Keeps.ext Kp apf.2;refine clb en1045 (hc := nAdd_ok rfl rfl (by have := fT1.2; have := (hR.bd k hkm).2; simp only [plP] at *; unfold Fi; omega) (ht.ext E)) (hk := ?_);rintro awk awl apg rfl;have aon := be apg.2 aon;have h1 := be apg.2 h1;have h2 := be apg.2 h2;have h3 := be apg.2 h3;have h4 := be apg.2 h4;have h5 := be apg.2 h5;have hbn := be apg.2 hbn;have E := xt E apg.2;have Kp := Keeps.ext Kp apg.2;refine go ?_;refine SO aon (fun awm aph atd => ?_);have h1 := pb aph h1;have h2 := pb aph h2;have h3 := pb aph h3;have h4 := pb aph h4;have h5 := pb aph h5
  have hbn := pb aph hbn;have E := plw aph E;have Kp := Keeps.put Kp aph (by first | exact Or.inr om | exact Or.inl (by simp));have awn := psz aph;refine go ?_;exact ⟨Kp.others (by intro b hb; simp only [List.mem_cons, List.not_mem_nil, or_false] at hb; rcases hb with rfl | rfl | rfl; exact hc0; exact hc1; exact hc2), rfl, (by have := Kp.size; omega), E, (by subst aqy; exact atd), h3, h4, h5⟩;refine go ?_;refine SA h1 (fun awo api aqz => ?_);have aon := pb api aon;have h2 := pb api h2;have h3 := pb api h3;have h4 := pb api h4;have h5 := pb api h5;have hbn := pb api hbn;have E := plw api E;have Kp := Keeps.put Kp api (by first | exact Or.inr om | exact Or.inl (by simp));have awp := psz api;refine SO h2 (fun awq apj ate => ?_);have aon := pb apj aon;have aqz := pb apj aqz;have h3 := pb apj h3;have h4 := pb apj h4;have h5 := pb apj h5;have hbn := pb apj hbn;have E := plw apj E;have Kp := Keeps.put Kp apj (by first | exact Or.inr om | exact Or.inl (by simp));have awr := psz apj;refine go ?_;exact ⟨Kp.others (by intro b hb; simp only [List.mem_cons, List.not_mem_nil, or_false] at hb; rcases hb with rfl | rfl | rfl; exact hc0; exact hc1; exact hc2), KpC.of Kp, fun _ => E, om, (by have := Kp.size; omega), E, aon, aqz, (by rw [decide_eq_true om]; exact ate), h3, h4, h5⟩
 case stop =>
  rintro D c k W hD ⟨rfl, zl, E, h0, h1, h2, h3⟩ hK;have zW := bz E;refine go ?_;refine SA h2 (fun aws ap4 atf => ?_);have h0 := pb ap4 h0;have h1 := pb ap4 h1;have h3 := pb ap4 h3;have hK := Dfr.put ap4 (hK.ne h2) hK;have E := plw ap4 E;have awt := psz ap4;refine go ?_;refine f_outM (v := .agg #[S (nS ((resP T m).1)), S (nS ((resP T m).2))]) hK (res1  rfl ?_) ((put_dfr _).low E om) rfl;refine res_cellA (t := 4) (cs := [S (nS ((resP T m).1)), S (nS ((resP T m).2))]) (b := aos.heap.size) (o := 0) U1056 rfl sz1056 ?_ ?_;exact rfl;exact Blk.cells (atf.dfr hK) (i := 0) rfl
end Go.Proofs.YtjijfnggomhpiaaGreatDoor
