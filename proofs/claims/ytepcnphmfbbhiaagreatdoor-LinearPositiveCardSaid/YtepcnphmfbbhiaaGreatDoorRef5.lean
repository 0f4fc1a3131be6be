/- Part of the proof that all functions of the layer agree with the reference implementation. -/
import Derived.Test.YtepcnphmfbbhiaaGreatDoorRef4
import Derived.Test.YtepcnphmfbbhiaaGreatDoorEngH
set_option linter.all false
set_option linter.all false
namespace Go.Proofs.YtepcnphmfbbhiaaGreatDoor
set_option maxRecDepth 100000
open Go Go.Eng Go.RowKit
attribute [local irreducible] wpListIn Code.wpIn Oper.wpIn Exit.then Exit.inBlock Exit.noGoto
set_option maxHeartbeats 40000000
theorem len_showI {n : Int} (h : fits n = true) : (showI n).length ≤ 201 := (isInt_len (isInt_showI h)).2
theorem len_outI (n : Int) : (rS (outI n)).length ≤ 1000000 := by
  unfold outI
  cases h : fits n with
  | true => have := len_showI h; simp [rS]; omega
  | false => simp [rS]
theorem len_mulI (a b : List UInt8) : (rS (mulI a b)).length ≤ 1000000 := by unfold mulI; split; exact len_outI _; simp [rS]
def Gi (a b : List UInt8) : Int := ((Int.gcd (valZ a) (valZ b) : Nat) : Int)
def mk4 (n d : List UInt8) : Option R := if isInt n && isInt d then makeR (valZ n) (valZ d) else none
section
variable {x y : List UInt8}
theorem gi_pos (h : valZ y ≠ 0) : 0 < Gi x y := by
  have : 0 < Int.gcd (valZ x) (valZ y) := Int.gcd_pos_of_ne_zero_right _ h
  unfold Gi; omega
theorem gi_fits (hy : isInt y = true) (h : valZ y ≠ 0) : fits (Gi x y) = true := fits_le (fits_val hy) (by
  have hd : Gi x y ∣ valZ y := Int.gcd_dvd_right ..
  exact Nat.le_of_dvd om (Int.natAbs_dvd_natAbs.2 hd))
theorem gcd_some (hx : isInt x = true) (hy : isInt y = true) (h : valZ y ≠ 0) : gcdI x y = some (showI (Gi x y)) := by
  unfold gcdI; rw [if_pos (by rw [hx, hy]; rfl)]; unfold outI
  show (if fits (Gi x y) = true then some (showI (Gi x y)) else none) = _
  rw [if_pos (gi_fits hy h)]
theorem div_some {z : List UInt8} (hz : isInt z = true) (hy : isInt y = true) (h : valZ y ≠ 0) (hd : Gi x y ∣ valZ z) : divI z (showI (Gi x y)) = some (showI (valZ z / Gi x y), showI (valZ z % Gi x y)) := by
  have hp := gi_pos (x := x) h
  rw [divI_ok (by rw [hz, isInt_showI (gi_fits hy h)]; rfl) (by rw [body_showI, valN_showN]; omega), valZ_showI]
  obtain ⟨g, hg⟩ : ∃ g : Nat, Gi x y = (g : Int) := ⟨_, rfl⟩
  rw [hg] at hd hp ⊢
  unfold outI
  rw [if_pos (fits_le (fits_val hz) (ediv_abs_le _ _ om hd))]
  rfl
theorem gi_l : Gi x y ∣ valZ x := Int.gcd_dvd_left ..
theorem gi_r : Gi x y ∣ valZ y := Int.gcd_dvd_right ..
theorem resD_some (q r : List UInt8) : resD (some (q, r)) = .tuple #[S q, S r, .int .i64 0] := rfl
theorem resI_some (q : List UInt8) : resI (some q) = .tuple #[S q, .int .i64 0] := rfl
theorem mk_no1 (h : isInt x = false) : none = mk4 x y := by unfold mk4; rw [h]; rfl
theorem mk_no2 (h : isInt y = false) : none = mk4 x y := by unfold mk4; rw [h]; simp
theorem mk_no3 (h : y = [48]) : none = mk4 x y := by
  unfold mk4 makeR; subst h; rw [valZ_zero]; simp
theorem ne_zero (hy : isInt y = true) (h : ¬ y = [48]) : valZ y ≠ 0 := fun e => h ((valZ_eq_zero hy).1 e)
theorem mk_pos (hx : isInt x = true) (hy : isInt y = true) (h0 : ¬ y = [48]) (hs : ¬ cmpS y [48] < 0) : some (showI (valZ x / Gi x y), showI (valZ y / Gi x y)) = mk4 x y := by
  rw [cmpS_zero hy, cmpI_neg] at hs
  unfold mk4 makeR redN redD
  rw [hx, hy, Bool.and_self, if_pos rfl, if_neg (ne_zero hy h0), if_neg hs, if_neg hs]; rfl
theorem mk_neg (hx : isInt x = true) (hy : isInt y = true) (h0 : ¬ y = [48]) (hs : cmpS y [48] < 0) :
    some (showI (valZ (showI (-valZ x)) / Gi (showI (-valZ x)) (showI (-valZ y))), showI (valZ (showI (-valZ y)) / Gi (showI (-valZ x)) (showI (-valZ y)))) = mk4 x y := by
  rw [cmpS_zero hy, cmpI_neg] at hs
  unfold mk4 makeR redN redD Gi
  rw [hx, hy, Bool.and_self, if_pos rfl, if_neg (ne_zero hy h0), if_pos hs, if_pos hs, valZ_showI, valZ_showI, Int.gcd_neg, Int.neg_gcd]
theorem ne_neg (hy : isInt y = true) (h0 : ¬ y = [48]) : valZ (showI (-valZ y)) ≠ 0 := by rw [valZ_showI]; have := ne_zero hy h0; omega
end
theorem resR_none : Value.tuple #[.agg #[S [], S []], .int .i64 40] = resR none := rfl
theorem resR_some (a b : List UInt8) : Value.tuple #[.agg #[S a, S b], .int .i64 0] = resR (some (a, b)) := rfl
theorem rE_some {n : Int} {o : Option (List UInt8)} (ho : o = outI n) (h : rE o = 0) : fits n = true ∧ rS o = showI n := by
  subst ho
  unfold outI at *
  cases hf : fits n with
  | true => exact ⟨rfl, rfl⟩
  | false => rw [hf] at h; simp [rE] at h
theorem rE_none {n : Int} {o : Option (List UInt8)} (ho : o = outI n) (h : ¬ rE o = 0) : fits n = false := by
  subst ho
  unfold outI at *
  cases hf : fits n with
  | true => rw [hf] at h; simp [rE] at h
  | false => rfl
section
variable {on od : Option (List UInt8)} {n d : Int}
theorem bo_ok (h1 : on = outI n) (h2 : od = outI d) (e1 : rE on = 0) (e2 : rE od = 0) : mk4 (rS on) (rS od) = bothF n d := by
  obtain ⟨f1, s1⟩ := rE_some h1 e1
  obtain ⟨f2, s2⟩ := rE_some h2 e2
  unfold bothF mk4
  rw [s1, s2, isInt_showI f1, isInt_showI f2, f1, f2, valZ_showI, valZ_showI]
  first | done | rfl
theorem bo_1 (h1 : on = outI n) (e1 : ¬ rE on = 0) : none = bothF n d := by unfold bothF; rw [rE_none h1 e1]; rfl
theorem bo_2 (h2 : od = outI d) (e2 : ¬ rE od = 0) : none = bothF n d := by unfold bothF; rw [rE_none h2 e2]; simp
end
section
variable {x1 x2 y1 y2 : List UInt8}
theorem m_11 (ha : okR (x1, x2) = true) (hb : okR (y1, y2) = true) : mulI x1 y1 = outI (valZ x1 * valZ y1) := mulI_ok (by rw [okR_1 ha, okR_1 hb]; rfl)
theorem m_22 (ha : okR (x1, x2) = true) (hb : okR (y1, y2) = true) : mulI x2 y2 = outI (valZ x2 * valZ y2) := mulI_ok (by rw [okR_2 ha, okR_2 hb]; rfl)
theorem mulR_2 (ha : okR (x1, x2) = true) (hb : okR (y1, y2) = true) : mulR (x1, x2) (y1, y2) = bothF (valZ x1 * valZ y1) (valZ x2 * valZ y2) := by unfold mulR; rw [ha, hb]; rfl
theorem mulR_n1 (ha : okR (x1, x2) = false) : none = mulR (x1, x2) (y1, y2) := by unfold mulR; rw [ha]; rfl
theorem mulR_n2 (hb : okR (y1, y2) = false) : none = mulR (x1, x2) (y1, y2) := by unfold mulR; rw [hb]; simp
end
theorem sz_int {l : List UInt8} (h : isInt l = true) : l.length ≤ 1000000 := by have := isInt_len h; omega
theorem r4Valid_ok (x y : List UInt8) (w : World) (s1 : x.length ≤ 1000000) (s2 : y.length ≤ 1000000) :
    Calls Tryz.prog 79 #[.agg #[S (x), S (y)]] w (Ret w fun v w' => v = .bool (okR (x, y))) := by
 refine f_in Tryz.func79 rfl ?_;refine go ?_;refine bx (fun fo fm e8 => ?_);have fc := fm.2;refine go ?_;refine clb en95 (hc := r3Valid_ok x _ (by assumption)) (hk := ?_);rintro fp fq fh rfl;have e8 := be fh.2 e8;have fc := xt fc fh.2;refine go ?_;refine clb en95 (hc := r3Valid_ok y _ (by assumption)) (hk := ?_);rintro fu fv fi rfl;have e8 := be fi.2 e8;have fc := xt fc fi.2;refine go ?_;rcases Bool.eq_false_or_eq_true (isInt x) with fe | fe;rcases Bool.eq_false_or_eq_true (isInt y) with fd | fd;refine go ?_;refine clb en86 (hc := r3Cmp_ok y ([48]) _ (by assumption) dc) (hk := ?_);rintro fw fx fj rfl;have e8 := be fj.2 e8;have fc := xt fc fj.2;refine go ?_;by_cases fk : (cmpS y ([48])) ≤ 0;refine go ?_;exact f_ret1 (t := 2) (v := .bool (false)) rfl fc (by first | exact okR_c1 (by assumption) | exact okR_c2 (by assumption) | exact okR_c3 (by assumption) | exact okR_c4 (by assumption) (by assumption) (by assumption) (by assumption) | exact okR_c5 (by assumption) (by assumption) (by assumption) (by assumption)) rfl;refine go ?_;refine clb en96 (hc := r3Gcd_ok x y _ (by assumption) (by assumption)) (hk := ?_);rintro fy f6 fl rfl;have fc := xt fc fl.2;refine go ?_;by_cases fg : (rE (gcdI x y)) = 0;refine go ?_;refine eqs (b := [49]) ?_;refine go ?_;exact f_ret1 (t := 2) (v := .bool (decide ((rS (gcdI x y)) = ([49])))) rfl fc (by first | exact okR_c1 (by assumption) | exact okR_c2 (by assumption) | exact okR_c3 (by assumption) | exact okR_c4 (by assumption) (by assumption) (by assumption) (by assumption) | exact okR_c5 (by assumption) (by assumption) (by assumption) (by assumption)) rfl
 refine go ?_;exact f_ret1 (t := 2) (v := .bool (false)) rfl fc (by first | exact okR_c1 (by assumption) | exact okR_c2 (by assumption) | exact okR_c3 (by assumption) | exact okR_c4 (by assumption) (by assumption) (by assumption) (by assumption) | exact okR_c5 (by assumption) (by assumption) (by assumption) (by assumption)) rfl;refine go ?_;exact f_ret1 (t := 2) (v := .bool (false)) rfl fc (by first | exact okR_c1 (by assumption) | exact okR_c2 (by assumption) | exact okR_c3 (by assumption) | exact okR_c4 (by assumption) (by assumption) (by assumption) (by assumption) | exact okR_c5 (by assumption) (by assumption) (by assumption) (by assumption)) rfl;refine go ?_;exact f_ret1 (t := 2) (v := .bool (false)) rfl fc (by first | exact okR_c1 (by assumption) | exact okR_c2 (by assumption) | exact okR_c3 (by assumption) | exact okR_c4 (by assumption) (by assumption) (by assumption) (by assumption) | exact okR_c5 (by assumption) (by assumption) (by assumption) (by assumption)) rfl
theorem r4Make_ok (x y : List UInt8) (w : World) (s1 : x.length ≤ 1000000) (s2 : y.length ≤ 1000000) :
    Calls Tryz.prog 77 #[S (x), S (y)] w (Ret w fun v w' => v = resR (mk4 x y)) := by
 refine f_in Tryz.func77 rfl ?_;refine go ?_;refine al inf36 (fun gj f9 fc => ?_);have e8 := f9.2;refine go ?_;refine clb en95 (hc := r3Valid_ok x _ (by assumption)) (hk := ?_);rintro gk gl fi rfl;have fc := be fi.2 fc;have e8 := xt e8 fi.2;refine go ?_;refine clb en95 (hc := r3Valid_ok y _ (by assumption)) (hk := ?_);rintro gm gn fj rfl;have fc := be fj.2 fc;have e8 := xt e8 fj.2;refine go ?_;rcases Bool.eq_false_or_eq_true (isInt x) with fd | fd;rcases Bool.eq_false_or_eq_true (isInt y) with fe | fe;refine go ?_;refine eqs (b := [48]) ?_;refine go ?_;by_cases fh : y = ([48]);refine go ?_;refine SA fc (fun gp fk gc => ?_);have e8 := plw fk e8;have gq := psz fk;refine go ?_;refine f_out (v := .tuple #[.agg #[S ([]), S ([])], .int .i64 (40)]) (res2 (r1 := .cell 4 41) (r2 := .tmp 5) rfl ?_ ?_) e8 (by rw [resR_none]; exact congrArg resR (by first | exact mk_no1 (by assumption) | exact mk_no2 (by assumption) | exact mk_no3 (by assumption)));refine res_cellA (t := 4) (cs := [S ([]), S ([])]) (b := w.heap.size) (o := 0) U36 rfl sz36 ?_ ?_;exact rfl;exact Blk.cells gc (i := 0) rfl;exact res_tmp (t := 5) (by exact rfl) _;have hx := fd;have hy := fe;have hy48 := fh;have hy0 := ne_zero hy hy48;refine go ?_;refine clb en86 (hc := r3Cmp_ok y ([48]) _ (by assumption) dc) (hk := ?_);rintro gu gv fl rfl;have fc := be fl.2 fc;have e8 := xt e8 fl.2;refine go ?_;by_cases fg : (cmpS y ([48])) < 0;have hs := fg;have hX := isInt_neg hx
 have hY := isInt_neg hy;have hY0 := ne_neg hy hy48;refine go ?_;refine clb en81 (hc := r3Sub_ok [48] x _ dc (by assumption)) (hk := ?_);rintro gw gy fm hcv;have fc := be fm.2 fc;have e8 := xt e8 fm.2;rw [subI_zero hx, resI_some] at hcv;subst hcv;refine go ?_;refine clb en81 (hc := r3Sub_ok [48] y _ dc (by assumption)) (hk := ?_);rintro gz g6 fo hcv;have fc := be fo.2 fc;have e8 := xt e8 fo.2;rw [subI_zero hy, resI_some] at hcv;subst hcv;refine go ?_;refine cl en96 (r3Gcd_ok (showI (-valZ x)) (showI (-valZ y)) _ (sz_int hX) (sz_int hY)) ?_;rintro g7 g8 fp hcv;have fc := be fp.2 fc;have e8 := xt e8 fp.2;rw [gcd_some hX hY hY0, resI_some] at hcv;subst hcv;refine go ?_;refine cl en85 (r3Div_ok (showI (-valZ x)) (showI (Gi (showI (-valZ x)) (showI (-valZ y)))) _ (sz_int hX) (sz_int (isInt_showI (gi_fits hY hY0)))) ?_;rintro g9 ia fq hcv;have fc := be fq.2 fc;have e8 := xt e8 fq.2;rw [div_some hX hY hY0 gi_l, resD_some] at hcv;subst hcv;refine go ?_;refine cl en85 (r3Div_ok (showI (-valZ y)) (showI (Gi (showI (-valZ x)) (showI (-valZ y)))) _ (sz_int hY) (sz_int (isInt_showI (gi_fits hY hY0)))) ?_;rintro ib ic fu hcv;have fc := be fu.2 fc;have e8 := xt e8 fu.2;rw [div_some hY hY hY0 gi_r, resD_some] at hcv;subst hcv;refine go ?_;refine SA fc (fun ie fv gd => ?_);have e8 := plw fv e8;have ig := psz fv;refine go ?_;refine f_out (v := .tuple #[.agg #[S (showI (valZ (showI (-valZ x)) / Gi (showI (-valZ x)) (showI (-valZ y)))), S (showI (valZ (showI (-valZ y)) / Gi (showI (-valZ x)) (showI (-valZ y))))], .int .i64 (0)]) (res2 (r1 := .cell 4 41) (r2 := .tmp 5) rfl ?_ ?_) e8 (by rw [resR_some, mk_neg hx hy hy48 hs])
 refine res_cellA (t := 4) (cs := [S (showI (valZ (showI (-valZ x)) / Gi (showI (-valZ x)) (showI (-valZ y)))), S (showI (valZ (showI (-valZ y)) / Gi (showI (-valZ x)) (showI (-valZ y))))]) (b := w.heap.size) (o := 0) U36 rfl sz36 ?_ ?_;exact rfl;exact Blk.cells gd (i := 0) rfl;exact res_tmp (t := 5) (by exact rfl) _;have hs := fg;have hX := hx;have hY := hy;have hY0 := hy0;refine go ?_;refine cl en96 (r3Gcd_ok x y _ (sz_int hX) (sz_int hY)) ?_;rintro ii ij fw hcv;have fc := be fw.2 fc;have e8 := xt e8 fw.2;rw [gcd_some hX hY hY0, resI_some] at hcv;subst hcv;refine go ?_;refine cl en85 (r3Div_ok x (showI (Gi x y)) _ (sz_int hX) (sz_int (isInt_showI (gi_fits hY hY0)))) ?_;rintro ik il fx hcv;have fc := be fx.2 fc;have e8 := xt e8 fx.2;rw [div_some hX hY hY0 gi_l, resD_some] at hcv;subst hcv;refine go ?_;refine cl en85 (r3Div_ok y (showI (Gi x y)) _ (sz_int hY) (sz_int (isInt_showI (gi_fits hY hY0)))) ?_;rintro im io fy hcv;have fc := be fy.2 fc;have e8 := xt e8 fy.2;rw [div_some hY hY hY0 gi_r, resD_some] at hcv;subst hcv;refine go ?_;refine SA fc (fun ip f6 gg => ?_);have e8 := plw f6 e8;have iq := psz f6;refine go ?_;refine f_out (v := .tuple #[.agg #[S (showI (valZ x / Gi x y)), S (showI (valZ y / Gi x y))], .int .i64 (0)]) (res2 (r1 := .cell 4 41) (r2 := .tmp 5) rfl ?_ ?_) e8 (by rw [resR_some, mk_pos hx hy hy48 hs]);refine res_cellA (t := 4) (cs := [S (showI (valZ x / Gi x y)), S (showI (valZ y / Gi x y))]) (b := w.heap.size) (o := 0) U36 rfl sz36 ?_ ?_
 exact rfl;exact Blk.cells gg (i := 0) rfl;exact res_tmp (t := 5) (by exact rfl) _;refine go ?_;refine SA fc (fun ir f7 gh => ?_);have e8 := plw f7 e8;have iu := psz f7;refine go ?_;refine f_out (v := .tuple #[.agg #[S ([]), S ([])], .int .i64 (40)]) (res2 (r1 := .cell 4 41) (r2 := .tmp 5) rfl ?_ ?_) e8 (by rw [resR_none]; exact congrArg resR (by first | exact mk_no1 (by assumption) | exact mk_no2 (by assumption) | exact mk_no3 (by assumption)));refine res_cellA (t := 4) (cs := [S ([]), S ([])]) (b := w.heap.size) (o := 0) U36 rfl sz36 ?_ ?_;exact rfl;exact Blk.cells gh (i := 0) rfl;exact res_tmp (t := 5) (by exact rfl) _;refine go ?_;refine SA fc (fun iv f8 gi => ?_);have e8 := plw f8 e8;have iw := psz f8;refine go ?_;refine f_out (v := .tuple #[.agg #[S ([]), S ([])], .int .i64 (40)]) (res2 (r1 := .cell 4 41) (r2 := .tmp 5) rfl ?_ ?_) e8 (by rw [resR_none]; exact congrArg resR (by first | exact mk_no1 (by assumption) | exact mk_no2 (by assumption) | exact mk_no3 (by assumption)));refine res_cellA (t := 4) (cs := [S ([]), S ([])]) (b := w.heap.size) (o := 0) U36 rfl sz36 ?_ ?_;exact rfl;exact Blk.cells gi (i := 0) rfl;exact res_tmp (t := 5) (by exact rfl) _
theorem r4Mul_ok (x1 x2 y1 y2 : List UInt8) (w : World) (s1 : x1.length ≤ 1000000) (s2 : x2.length ≤ 1000000) (s3 : y1.length ≤ 1000000) (s4 : y2.length ≤ 1000000) :
    Calls Tryz.prog 37 #[.agg #[S (x1), S (x2)], .agg #[S (y1), S (y2)]] w (Ret w fun v w' => v = resR (mulR (x1, x2) (y1, y2))) := by
 refine f_in Tryz.func37 rfl ?_;refine go ?_;refine bx (fun fk f9 fc => ?_);have e8 := f9.2;refine bx (fun fi f8 fd => ?_);have fc := be f8.2 fc;have e8 := xt e8 f8.2;refine al inf36 (fun gj f7 fe => ?_);have fc := be f7.2 fc;have fd := be f7.2 fd;have e8 := xt e8 f7.2;refine go ?_;refine clb en74 (hc := r4Valid_ok x1 x2 _ (by assumption) (by assumption)) (hk := ?_);rintro gk gl fl rfl;have fc := be fl.2 fc;have fd := be fl.2 fd;have fe := be fl.2 fe;have e8 := xt e8 fl.2;refine go ?_;refine clb en74 (hc := r4Valid_ok y1 y2 _ (by assumption) (by assumption)) (hk := ?_);rintro gm gn fm rfl;have fc := be fm.2 fc;have fd := be fm.2 fd;have fe := be fm.2 fe;have e8 := xt e8 fm.2;refine go ?_;rcases Bool.eq_false_or_eq_true (okR (x1, x2)) with fg | fg;refine go ?_;rcases Bool.eq_false_or_eq_true (okR (y1, y2)) with fh | fh;refine go ?_;refine clb en75 (hc := r3Mul_ok x1 y1 _ (by assumption) (by assumption)) (hk := ?_);rintro gp gq fo rfl;have fc := be fo.2 fc;have fd := be fo.2 fd;have fe := be fo.2 fe;have e8 := xt e8 fo.2;refine go ?_;refine clb en75 (hc := r3Mul_ok x2 y2 _ (by assumption) (by assumption)) (hk := ?_);rintro gu gv fp rfl;have fc := be fp.2 fc;have fd := be fp.2 fd;have fe := be fp.2 fe;have e8 := xt e8 fp.2;refine go ?_;by_cases fj : (rE (mulI x1 y1)) = 0;refine go ?_;by_cases fq : (rE (mulI x2 y2)) = 0;refine go ?_;refine cl en72 (r4Make_ok (rS (mulI x1 y1)) (rS (mulI x2 y2)) _ (len_mulI _ _) (len_mulI _ _)) ?_
 rintro gw gy fu rfl;have fc := be fu.2 fc;have fd := be fu.2 fd;have fe := be fu.2 fe;have e8 := xt e8 fu.2;refine go ?_;refine SA fe (fun gz fv gc => ?_);have fc := pb fv fc;have fd := pb fv fd;have e8 := plw fv e8;have g6 := psz fv;refine go ?_;refine f_out (v := .tuple #[.agg #[S (rN (mk4 (rS (mulI x1 y1)) (rS (mulI x2 y2)))), S (rD (mk4 (rS (mulI x1 y1)) (rS (mulI x2 y2))))], .int .i64 (rER (mk4 (rS (mulI x1 y1)) (rS (mulI x2 y2))))]) (res2 (r1 := .cell 4 41) (r2 := .tmp 5) rfl ?_ ?_) e8 (by rw [mulR_2 fg fh]; exact congrArg resR (bo_ok (m_11 fg fh) (m_22 fg fh) fj fq));refine res_cellA (t := 4) (cs := [S (rN (mk4 (rS (mulI x1 y1)) (rS (mulI x2 y2)))), S (rD (mk4 (rS (mulI x1 y1)) (rS (mulI x2 y2))))]) (b := fi.heap.size) (o := 0) U36 rfl sz36 ?_ ?_;exact rfl;exact Blk.cells gc (i := 0) rfl;exact res_tmp (t := 5) (by exact rfl) _;refine go ?_;refine SA fe (fun g7 fw gd => ?_);have fc := pb fw fc;have fd := pb fw fd;have e8 := plw fw e8;have g8 := psz fw;refine go ?_;refine f_out (v := .tuple #[.agg #[S ([]), S ([])], .int .i64 (40)]) (res2 (r1 := .cell 4 41) (r2 := .tmp 5) rfl ?_ ?_) e8 (by rw [resR_none, mulR_2 fg fh]; exact congrArg resR (bo_2 (m_22 fg fh) fq));refine res_cellA (t := 4) (cs := [S ([]), S ([])]) (b := fi.heap.size) (o := 0) U36 rfl sz36 ?_ ?_;exact rfl;exact Blk.cells gd (i := 0) rfl;exact res_tmp (t := 5) (by exact rfl) _
 refine go ?_;refine SA fe (fun g9 fx gg => ?_);have fc := pb fx fc;have fd := pb fx fd;have e8 := plw fx e8;have ia := psz fx;refine go ?_;refine f_out (v := .tuple #[.agg #[S ([]), S ([])], .int .i64 (40)]) (res2 (r1 := .cell 4 41) (r2 := .tmp 5) rfl ?_ ?_) e8 (by rw [resR_none, mulR_2 fg fh]; exact congrArg resR (bo_1 (m_11 fg fh) fj));refine res_cellA (t := 4) (cs := [S ([]), S ([])]) (b := fi.heap.size) (o := 0) U36 rfl sz36 ?_ ?_;exact rfl;exact Blk.cells gg (i := 0) rfl;exact res_tmp (t := 5) (by exact rfl) _;refine go ?_;refine SA fe (fun ib fy gh => ?_);have fc := pb fy fc;have fd := pb fy fd;have e8 := plw fy e8;have ic := psz fy;refine go ?_;refine f_out (v := .tuple #[.agg #[S ([]), S ([])], .int .i64 (40)]) (res2 (r1 := .cell 4 41) (r2 := .tmp 5) rfl ?_ ?_) e8 (by rw [resR_none, mulR_n2 fh]);refine res_cellA (t := 4) (cs := [S ([]), S ([])]) (b := fi.heap.size) (o := 0) U36 rfl sz36 ?_ ?_;exact rfl;exact Blk.cells gh (i := 0) rfl;exact res_tmp (t := 5) (by exact rfl) _;refine go ?_;refine SA fe (fun ie f6 gi => ?_);have fc := pb f6 fc;have fd := pb f6 fd;have e8 := plw f6 e8;have ig := psz f6;refine go ?_;refine f_out (v := .tuple #[.agg #[S ([]), S ([])], .int .i64 (40)]) (res2 (r1 := .cell 4 41) (r2 := .tmp 5) rfl ?_ ?_) e8 (by rw [resR_none, mulR_n1 fg]);refine res_cellA (t := 4) (cs := [S ([]), S ([])]) (b := fi.heap.size) (o := 0) U36 rfl sz36 ?_ ?_
 exact rfl;exact Blk.cells gi (i := 0) rfl;exact res_tmp (t := 5) (by exact rfl) _
end Go.Proofs.YtepcnphmfbbhiaaGreatDoor
