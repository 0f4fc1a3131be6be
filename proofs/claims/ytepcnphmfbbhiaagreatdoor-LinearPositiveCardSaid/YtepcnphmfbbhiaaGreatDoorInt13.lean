/- Part of the proof that all functions of the layer agree with the reference implementation. -/
import Derived.Test.YtepcnphmfbbhiaaGreatDoorInt12
import Derived.Test.YtepcnphmfbbhiaaGreatDoorEngH
set_option linter.all false
set_option linter.all false
namespace Go.Proofs.YtepcnphmfbbhiaaGreatDoor
set_option maxRecDepth 100000
open Go Go.Eng Go.RowKit
attribute [local irreducible] wpListIn Code.wpIn Oper.wpIn Exit.then Exit.inBlock Exit.noGoto
set_option maxHeartbeats 40000000
theorem num_len {w : World} {lo n c a k : Nat} {A : Option Addr} (h : Num w lo A n c a) (hl : a < 10000 ^ k) : n ≤ k := by rw [← h.len]; exact (length_toB_le_iff 10000 om a k).2 hl
theorem val_lt {l : List UInt8} (h : isInt l = true) : valN (body l) < 10000 ^ 50 := Nat.lt_of_lt_of_le (valN_lt (isInt_num h)) dc
theorem sgn_val (l : List UInt8) : sgn (neg l) (valN (body l)) = valZ l := rfl
theorem sgn_not (ng : Bool) (a : Nat) : sgn (!ng) a = -sgn ng a := by cases ng <;> simp [sgn]
theorem and_no {a b : Bool} (h : ¬ (a && b) = true) : (a && b) = false := by simpa using h
theorem and_l {a b : Bool} (h : (a && b) = true) : a = true := by simp at h; exact h.1
theorem and_r {a b : Bool} (h : (a && b) = true) : b = true := by simp at h; exact h.2
theorem addI_ok {a b : List UInt8} (h : (isInt a && isInt b) = true) : addI a b = outI (valZ a + valZ b) := by unfold addI; rw [if_pos h]
theorem addI_no {a b : List UInt8} (h : (isInt a && isInt b) = false) : addI a b = none := by unfold addI; rw [h]; rfl
theorem subI_ok {a b : List UInt8} (h : (isInt a && isInt b) = true) : subI a b = outI (valZ a - valZ b) := by unfold subI; rw [if_pos h]
theorem subI_no {a b : List UInt8} (h : (isInt a && isInt b) = false) : subI a b = none := by unfold subI; rw [h]; rfl
theorem mulI_ok {a b : List UInt8} (h : (isInt a && isInt b) = true) : mulI a b = outI (valZ a * valZ b) := by unfold mulI; rw [if_pos h]
theorem mulI_no {a b : List UInt8} (h : (isInt a && isInt b) = false) : mulI a b = none := by unfold mulI; rw [h]; rfl
theorem gcdI_no {a b : List UInt8} (h : (isInt a && isInt b) = false) : gcdI a b = none := by unfold gcdI; rw [h]; rfl
theorem cmpS_no {a b : List UInt8} (h : (isInt a && isInt b) = false) : cmpS a b = 0 := by unfold cmpS; rw [h]; rfl
theorem gcdI_ok {a b : List UInt8} (h : (isInt a && isInt b) = true) : gcdI a b = outI (sgn false (Nat.gcd (valN (body a)) (valN (body b)))) := by
  unfold gcdI; rw [if_pos h]
  have : Int.gcd (valZ a) (valZ b) = Nat.gcd (valN (body a)) (valN (body b)) := by rw [Int.gcd, valZ_natAbs, valZ_natAbs]
  rw [this]; rfl
theorem sgn_mul (x y : Bool) (a b : Nat) : sgn (!(x == y)) (a * b) = sgn x a * sgn y b := by cases x <;> cases y <;> simp [sgn, Int.neg_mul, Int.mul_neg]
theorem sum_lt {a b : List UInt8} (ha : isInt a = true) (hb : isInt b = true) {ng : Bool} {r : Nat} {s : Int} (h : sgn ng r = valZ a + s) (hs : s = valZ b ∨ s = -valZ b) : r < 10000 ^ 51 := by
  have h1 := val_lt ha
  have h2 := val_lt hb
  have e : (sgn ng r).natAbs = r := natAbs_sgn ng r
  have ea := valZ_natAbs a
  have eb := valZ_natAbs b
  have : (10000 : Nat) ^ 51 = 10000 ^ 50 * 10000 := by rw [← Nat.pow_succ]
  generalize (10000 : Nat) ^ 50 = M at *
  omega
theorem cmp_nn {a b : List UInt8} (h : (isInt a && isInt b) = true) (ha : neg a = true) (hb : neg b = true) : cmpI ((valN (body b) : Nat) : Int) ((valN (body a) : Nat) : Int) = cmpS a b := by
  unfold cmpS; rw [if_pos h]
  refine cmpI_congr ?_ ?_ <;> (unfold valZ; rw [if_pos ha, if_pos hb]; omega)
theorem cmp_np {a b : List UInt8} (h : (isInt a && isInt b) = true) (ha : neg a = true) (hb : neg b = false) : (-1 : Int) = cmpS a b := by
  unfold cmpS; rw [if_pos h, cmpI_lt]
  have := valN_pos (isInt_num (and_l h)) (isInt_neg0 (and_l h) ha)
  unfold valZ; rw [if_pos ha, if_neg (by simp [hb])]; omega
theorem cmp_pn {a b : List UInt8} (h : (isInt a && isInt b) = true) (ha : neg a = false) (hb : neg b = true) : (1 : Int) = cmpS a b := by
  unfold cmpS; rw [if_pos h, cmpI_gt]
  have := valN_pos (isInt_num (and_r h)) (isInt_neg0 (and_r h) hb)
  have e1 : valZ a = (valN (body a) : Int) := by unfold valZ; rw [if_neg (by simp [ha])]
  have e2 : valZ b = -(valN (body b) : Int) := by unfold valZ; rw [if_pos hb]
  rw [e1, e2]; omega
theorem cmp_pp {a b : List UInt8} (h : (isInt a && isInt b) = true) (ha : neg a = false) (hb : neg b = false) : cmpI ((valN (body a) : Nat) : Int) ((valN (body b) : Nat) : Int) = cmpS a b := by
  unfold cmpS; rw [if_pos h]
  unfold valZ; rw [if_neg (by simp [ha]), if_neg (by simp [hb])]
def resD (o : Option (List UInt8 × List UInt8)) : Value := .tuple #[S (rS (o.map (·.1))), S (rS (o.map (·.2))), .int .i64 (if o.isSome then 0 else 30)]
theorem divI_no {a b : List UInt8} (h : (isInt a && isInt b) = false) : divI a b = none := by unfold divI; rw [h]; rfl
theorem divI_z {a b : List UInt8} (h : valN (body b) = 0) : divI a b = none := by
  unfold divI
  by_cases hb : isInt b = true
  · have : b = [48] := (valZ_eq_zero hb).1 (by have := valZ_natAbs b; omega)
    simp [this]
  · simp [hb]
theorem divI_ok {a b : List UInt8} (h : (isInt a && isInt b) = true) (h0 : 0 < valN (body b)) : divI a b = (outI (valZ a / valZ b)).map fun q => (q, showI (valZ a % valZ b)) := by
  have hb : b ≠ [48] := by intro e; subst e; exact absurd valN_zero (by have : body [48] = [48] := rfl; rw [this] at h0; omega)
  unfold divI
  rw [h, decide_eq_true hb]; rfl
theorem ediv_sgn (ny : Bool) (x : Int) (b : Nat) : x / sgn ny b = (if ny then -(x / (b : Int)) else x / (b : Int)) ∧ x % sgn ny b = x % (b : Int) := by
  cases ny
  · simp [sgn]
  · simp [sgn, Int.ediv_neg, Int.emod_neg]
theorem div_plain {nx ny : Bool} {a b : Nat} (hb : 0 < b) (hc : nx = false ∨ a % b = 0) : sgn (!(nx == ny)) (a / b) = sgn nx a / sgn ny b ∧ ((a % b : Nat) : Int) = sgn nx a % sgn ny b := by
  obtain ⟨e1, e2⟩ := ediv_sgn ny (sgn nx a) b
  rw [e1, e2]
  cases nx with
  | false =>
    simp only [sgn, Bool.false_eq_true, if_false]
    cases ny <;> simp
  | true =>
    have hz : a % b = 0 := by rcases hc with h | h; cases h; exact h
    have hd : (b : Int) ∣ (a : Int) := Int.natCast_dvd_natCast.2 (Nat.dvd_of_mod_eq_zero hz)
    simp only [sgn, if_true]
    rw [Int.neg_ediv_of_dvd hd, Int.emod_eq_zero_of_dvd (Int.dvd_neg.2 hd), hz]
    cases ny <;> simp
theorem div_round {ny : Bool} {a b : Nat} (hb : 0 < b) (hr : 0 < a % b) : sgn (!(true == ny)) (a / b + 1) = sgn true a / sgn ny b ∧ ((b - a % b : Nat) : Int) = sgn true a % sgn ny b := by
  obtain ⟨e1, e2⟩ := ediv_sgn ny (sgn true a) b
  rw [e1, e2]
  have hlt := Nat.mod_lt a hb
  have hdm := Nat.div_add_mod a b
  have key : (-(a : Int)) / (b : Int) = -((a / b : Nat) : Int) - 1 ∧ (-(a : Int)) % (b : Int) = ((b - a % b : Nat) : Int) := by
    refine (Int.ediv_emod_unique om).2 ⟨?_, by omega, by omega⟩
    have h3 : (a : Int) = (b : Int) * ((a / b : Nat) : Int) + ((a % b : Nat) : Int) := by rw [← Int.natCast_mul, ← Int.natCast_add, hdm]
    rw [Int.mul_sub, Int.mul_neg]
    omega
  simp only [sgn, if_true]
  rw [key.1, key.2]
  cases ny <;> simp <;> omega
theorem rS_rem {r : Nat} {x : Int} (hr : r < 10 ^ 200) (h : (r : Int) = x) : rS (outI (sgn false r)) = showI x := by
  have hf : fits x = true := by unfold fits; rw [decide_eq_true_eq]; omega
  have e : sgn false r = x := h
  rw [e]; unfold outI; rw [if_pos hf]; rfl
theorem mod_lt_pow {b : List UInt8} {r : Nat} (hb : isInt b = true) (h : r ≤ valN (body b)) : r < 10 ^ 200 := Nat.lt_of_le_of_lt h (valN_lt (isInt_num hb))
theorem rE_zero {o : Option (List UInt8)} (h : rE o = 0) : ∃ s, o = some s := by cases o with | none => simp [rE] at h | some s => exact ⟨s, rfl⟩
theorem rE_ne {o : Option (List UInt8)} (h : ¬ rE o = 0) : o = none := by cases o with | none => rfl | some s => simp [rE] at h
theorem div_out {a b : List UInt8} {q r : Nat} {ng : Bool} (h : (isInt a && isInt b) = true) (h0 : 0 < valN (body b)) (hq : sgn ng q = valZ a / valZ b) (hr : (r : Int) = valZ a % valZ b) (hl : r ≤ valN (body b)) (hE : rE (outI (sgn ng q)) = 0) :
    Value.tuple #[S (rS (outI (sgn ng q))), S (rS (outI (sgn false r))), .int .i64 0] = resD (divI a b) := by
  rw [divI_ok h h0, rS_rem (mod_lt_pow (and_r h) hl) hr, ← hq]
  obtain ⟨s, hs⟩ := rE_zero hE
  rw [hs]; rfl
theorem div_bad {a b : List UInt8} {q : Nat} {ng : Bool} (h : (isInt a && isInt b) = true) (h0 : 0 < valN (body b)) (hq : sgn ng q = valZ a / valZ b) (hE : ¬ rE (outI (sgn ng q)) = 0) :
    Value.tuple #[S [], S [], .int .i64 (rE (outI (sgn ng q)))] = resD (divI a b) := by
  rw [divI_ok h h0, ← hq, rE_ne hE]; rfl
theorem prod_lt {a b : List UInt8} (ha : isInt a = true) (hb : isInt b = true) : valN (body a) * valN (body b) < 10000 ^ 100 := by
  have h1 := val_lt ha
  have h2 := val_lt hb
  have : (10000 : Nat) ^ 100 = 10000 ^ 50 * 10000 ^ 50 := by rw [← Nat.pow_add]
  rw [this]
  exact Nat.mul_lt_mul'' h1 h2
def SgPost (lo : Nat) (ng : Bool) (a : Nat) (v : Value) (w : World) : Prop := ∃ A n c, v = .agg #[.bool ng, .slice A n c] ∧ Num w lo A n c a
theorem SgPost.ext {lo a : Nat} {ng : Bool} {v : Value} {w w' : World} (k : Ext w w') (h : SgPost lo ng a v w) : SgPost lo ng a v w' := by
  obtain ⟨A, n, c, hv, hn⟩ := h
  exact ⟨A, n, c, hv, hn.ext k⟩
theorem iAdd_ok (a b : List UInt8) (w : World) (ht : Tb w) :
    Calls Tryz.prog 68 #[S (a), S (b)] w (Ret w fun v w' => v = resI (addI a b)) := by
 by_cases hno : (isInt a && isInt b) = true;have ha := and_l hno;have hb := and_r hno;refine f_in Tryz.func68 rfl ?_;refine go ?_;refine cl en104 (both_ok _ _ _ ha hb) ?_;rintro gg fw f7 ⟨A1, n1, c1, A2, n2, c2, rfl, h1, h2⟩;have e8 := f7.2;have l1 := num_len h1 (val_lt ha);have l2 := num_len h2 (val_lt hb);have uh1 := h1.hi;have uh2 := h2.hi;refine go ?_;refine al inf125 (fun fx fl fm => ?_);have h1 := Num.ext fl.2 h1;have h2 := Num.ext fl.2 h2;have e8 := xt e8 fl.2;refine al inf125 (fun gh fk fo => ?_);have h1 := Num.ext fk.2 h1;have h2 := Num.ext fk.2 h2;have fm := be fk.2 fm;have e8 := xt e8 fk.2;refine SA fm (fun gi fg fd => ?_);have h1 := Num.putU fg (fun ad e => by have := uh1 ad e; omega) h1;have h2 := Num.putU fg (fun ad e => by have := uh2 ad e; omega) h2;have fo := pb fg fo;have e8 := plw fg e8;have gj := psz fg;refine SA fo (fun gk fh fi => ?_);have h1 := Num.putU fh (fun ad e => by have := uh1 ad e; omega) h1;have h2 := Num.putU fh (fun ad e => by have := uh2 ad e; omega) h2;have fd := pb fh fd;have e8 := plw fh e8;have gl := psz fh;refine go ?_;refine clb en228 (hc := splus_ok h1 om h2 om) (hk := ?_);rintro gm gn fj ⟨ng, r, A, n, c, rfl, hr, hs⟩;have e8 := xt e8 fj.2;rw [sgn_val, sgn_val] at hs;have lr := num_len hr (sum_lt ha hb hs (by exact Or.inl rfl));refine clb en109 (hc := stext_ok hr om (ht.ext e8)) (hk := ?_);rintro gp gq fe rfl;have e8 := xt e8 fe.2
 refine go ?_;exact f_ret2 (t := 4) (u := 5) (v1 := S (rS (outI (sgn ng r)))) (v2 := .int .i64 (rE (outI (sgn ng r)))) rfl e8 (by rw [addI_ok hno]; exact congrArg (fun x => resI (outI x)) hs) rfl rfl;have hno := and_no hno;refine f_in Tryz.func68 rfl ?_;refine go ?_;refine cl en104 (both_no _ _ _ hno) ?_;rintro gu f8 f9 rfl;have fc := f9.2;refine go ?_;refine al inf125 (fun gc gd fp => ?_);have fc := xt fc gd.2;refine al inf125 (fun gv fy fq => ?_);have fp := be fy.2 fp;have fc := xt fc fy.2;refine SA fp (fun gw fu f6 => ?_);have fq := pb fu fq;have fc := plw fu fc;have gy := psz fu;refine SA fq (fun gz fv g6 => ?_);have f6 := pb fv f6;have fc := plw fv fc;have g7 := psz fv;refine go ?_;exact f_ret2 (t := 4) (u := 5) (v1 := S ([])) (v2 := .int .i64 (30)) rfl fc (by rw [addI_no hno]; rfl) rfl rfl
theorem iSub_ok (a b : List UInt8) (w : World) (ht : Tb w) :
    Calls Tryz.prog 89 #[S (a), S (b)] w (Ret w fun v w' => v = resI (subI a b)) := by
 by_cases hno : (isInt a && isInt b) = true;have ha := and_l hno;have hb := and_r hno;refine f_in Tryz.func89 rfl ?_;refine go ?_;refine cl en104 (both_ok _ _ _ ha hb) ?_;rintro gi fy f9 ⟨A1, n1, c1, A2, n2, c2, rfl, h1, h2⟩;have e8 := f9.2;have l1 := num_len h1 (val_lt ha);have l2 := num_len h2 (val_lt hb);have uh1 := h1.hi;have uh2 := h2.hi;refine go ?_;refine al inf125 (fun fe fo fp => ?_);have h1 := Num.ext fo.2 h1;have h2 := Num.ext fo.2 h2;have e8 := xt e8 fo.2;refine al inf125 (fun gj fm fq => ?_);have h1 := Num.ext fm.2 h1;have h2 := Num.ext fm.2 h2;have fp := be fm.2 fp;have e8 := xt e8 fm.2;refine SA fp (fun gk fh fc => ?_);have h1 := Num.putU fh (fun ad e => by have := uh1 ad e; omega) h1;have h2 := Num.putU fh (fun ad e => by have := uh2 ad e; omega) h2;have fq := pb fh fq;have e8 := plw fh e8;have gl := psz fh;refine SA fq (fun gm fi f6 => ?_);have h1 := Num.putU fi (fun ad e => by have := uh1 ad e; omega) h1;have h2 := Num.putU fi (fun ad e => by have := uh2 ad e; omega) h2;have fc := pb fi fc;have e8 := plw fi e8;have gn := psz fi;refine go ?_;refine SO f6 (fun gp fj fk => ?_);have h1 := Num.putU fj (fun ad e => by have := uh1 ad e; omega) h1;have h2 := Num.putU fj (fun ad e => by have := uh2 ad e; omega) h2;have fc := pb fj fc;have e8 := plw fj e8;have gq := psz fj;refine go ?_;refine clb en228 (hc := splus_ok h1 om h2 om) (hk := ?_)
 rintro gu gv fl ⟨ng, r, A, n, c, rfl, hr, hs⟩;have e8 := xt e8 fl.2;rw [sgn_val, sgn_not, sgn_val] at hs;have lr := num_len hr (sum_lt ha hb hs (by exact Or.inr rfl));refine clb en109 (hc := stext_ok hr om (ht.ext e8)) (hk := ?_);rintro gw gy fg rfl;have e8 := xt e8 fg.2;refine go ?_;exact f_ret2 (t := 4) (u := 5) (v1 := S (rS (outI (sgn ng r)))) (v2 := .int .i64 (rE (outI (sgn ng r)))) rfl e8 (by rw [subI_ok hno]; rw [show valZ a - valZ b = valZ a + -valZ b from rfl]; exact congrArg (fun x => resI (outI x)) hs) rfl rfl;have hno := and_no hno;refine f_in Tryz.func89 rfl ?_;refine go ?_;refine cl en104 (both_no _ _ _ hno) ?_;rintro gz gc gd rfl;have fd := gd.2;refine go ?_;refine al inf125 (fun gg gh fu => ?_);have fd := xt fd gh.2;refine al inf125 (fun g6 f7 fv => ?_);have fu := be f7.2 fu;have fd := xt fd f7.2;refine SA fu (fun g7 fw f8 => ?_);have fv := pb fw fv;have fd := plw fw fd;have g8 := psz fw;refine SA fv (fun g9 fx ia => ?_);have f8 := pb fx f8;have fd := plw fx fd;have ib := psz fx;refine go ?_;exact f_ret2 (t := 4) (u := 5) (v1 := S ([])) (v2 := .int .i64 (30)) rfl fd (by rw [subI_no hno]; rfl) rfl rfl
theorem iMul_ok (a b : List UInt8) (w : World) (ht : Tb w) :
    Calls Tryz.prog 91 #[S (a), S (b)] w (Ret w fun v w' => v = resI (mulI a b)) := by
 by_cases hno : (isInt a && isInt b) = true;have ha := and_l hno;have hb := and_r hno;refine f_in Tryz.func91 rfl ?_;refine go ?_;refine cl en104 (both_ok _ _ _ ha hb) ?_;rintro ie fh gu ⟨A1, n1, c1, A2, n2, c2, rfl, h1, h2⟩;have fd := gu.2;have l1 := num_len h1 (val_lt ha);have l2 := num_len h2 (val_lt hb);have uh1 := h1.hi;have uh2 := h2.hi;refine go ?_;refine al inf125 (fun fi gh gi => ?_);have h1 := Num.ext gh.2 h1;have h2 := Num.ext gh.2 h2;have fd := xt fd gh.2;refine al inf125 (fun ig fq gj => ?_);have h1 := Num.ext fq.2 h1;have h2 := Num.ext fq.2 h2;have gi := be fq.2 gi;have fd := xt fd fq.2;refine SA gi (fun ii fj e8 => ?_);have h1 := Num.putU fj (fun ad e => by have := uh1 ad e; omega) h1;have h2 := Num.putU fj (fun ad e => by have := uh2 ad e; omega) h2;have gj := pb fj gj;have fd := plw fj fd;have ij := psz fj;refine SA gj (fun gv fk fc => ?_);have h1 := Num.putU fk (fun ad e => by have := uh1 ad e; omega) h1;have h2 := Num.putU fk (fun ad e => by have := uh2 ad e; omega) h2;have e8 := pb fk e8;have fd := plw fk fd;have ik := psz fk;refine go ?_;obtain ⟨L, hL⟩ : ∃ L, L = gv.heap.size := ⟨_, rfl⟩;have lr0 := prod_lt ha hb;refine c_an 14 ?_;refine sf ?_;refine sf_ap (fun i6 i7 fy i8 => by refine l_op (k_neqB (a := neg a) (b := neg b) (q := (!((neg a) == (neg b)))) U4 rfl rfl rfl ?_);refine go ?_;exact finp) ?_
 refine sf ?_;refine sf_ah (fun v w => NumPost L (valN (body a) * valN (body b)) v w) (hs := fun _ _ _ k h => h.ext k) (fun jm jn fl jo => ?_) ?_;have h1 := Num.ext fl h1;have h2 := Num.ext fl h2;refine clb en231 (hc := times_ok h1 om h2 om) (hk := ?_);rintro jp jq fm ⟨Ar, nr, cr, rfl, hr⟩;have gw := fm.2;have hr := hr.mono (lo' := L) (by have := bz fl; omega);refine go ?_;exact fs ⟨gw, ⟨Ar, nr, cr, rfl, hr⟩⟩;refine sf_ah (fun v w => SgPost L (!(neg a == neg b)) (valN (body a) * valN (body b)) v w) (hs := fun _ _ _ k h => h.ext k) (fun jr js gc gy => ?_) ?_;obtain ⟨Ar, nr, cr, gz, hr⟩ := (gy 9 27 rfl rfl);refine l_op (k_build (vs := [(0, .bool ((!((neg a) == (neg b))))), (1, .slice (Ar) (nr) (cr))]) (cells := #[.bool ((!((neg a) == (neg b)))), .slice (Ar) (nr) (cr)]) (pl := [(0, 1), (1, 1)]) U125 inf125 (by kernel_rfl) (cons_eqp rfl (cons_eqp gz rfl)) (by kernel_rfl) ?_);refine go ?_;exact fs ⟨Ext.refl _, ⟨Ar, nr, cr, rfl, hr⟩⟩;refine sf_ae (V := .tuple #[S (rS (outI (sgn (!(neg a == neg b)) (valN (body a) * valN (body b))))), .int .i64 (rE (outI (sgn (!(neg a == neg b)) (valN (body a) * valN (body b)))))]) (fun jt ju fo g6 => ?_) ?_;obtain ⟨Aq, nq, cq, g7, hq⟩ := (g6 10 28 rfl rfl);have lq := num_len hq (prod_lt ha hb);refine clb en109 (hc := stext_ok hq om (ht.ext (xt fd fo))) (hk := ?_) (hv := cons_eq g7 rfl);rintro jv jw fg rfl;have g8 := fg.2;refine go ?_;exact fs ⟨g8, rfl⟩;refine sf ?_;intro j9 ka fp kb;have fd := xt fd fp.2
 refine go ?_;exact f_ret2 (t := 4) (u := 5) (v1 := S (rS (outI (sgn (!(neg a == neg b)) (valN (body a) * valN (body b)))))) (v2 := .int .i64 (rE (outI (sgn (!(neg a == neg b)) (valN (body a) * valN (body b)))))) rfl fd (by rw [mulI_ok hno, ← sgn_val, ← sgn_val, ← sgn_mul]; rfl) rfl rfl;have hno := and_no hno;refine f_in Tryz.func91 rfl ?_;refine go ?_;refine cl en104 (both_no _ _ _ hno) ?_;rintro ke g9 ia rfl;have fe := ia.2;refine go ?_;refine al inf125 (fun ib ic gk => ?_);have fe := xt fe ic.2;refine al inf125 (fun kf gp gl => ?_);have gk := be gp.2 gk;have fe := xt fe gp.2;refine SA gk (fun kg gm gq => ?_);have gl := pb gm gl;have fe := plw gm fe;have kh := psz gm;refine SA gl (fun ki gn kj => ?_);have gq := pb gn gq;have fe := plw gn fe;have km := psz gn;refine go ?_;exact f_ret2 (t := 4) (u := 5) (v1 := S ([])) (v2 := .int .i64 (30)) rfl fe (by rw [mulI_no hno]; rfl) rfl rfl
theorem iCmp_ok (a b : List UInt8) (w : World) :
    Calls Tryz.prog 74 #[S (a), S (b)] w (Ret w fun v w' => v = .int .i64 (cmpS a b)) := by
 by_cases hno : (isInt a && isInt b) = true;have ha := and_l hno;have hb := and_r hno;refine f_in Tryz.func74 rfl ?_;refine go ?_;refine cl en104 (both_ok _ _ _ ha hb) ?_;rintro gj fc gc ⟨A1, n1, c1, A2, n2, c2, rfl, h1, h2⟩;have e8 := gc.2;have l1 := num_len h1 (val_lt ha);have l2 := num_len h2 (val_lt hb);have uh1 := h1.hi;have uh2 := h2.hi;refine go ?_;refine al inf125 (fun fe fp fq => ?_);have h1 := Num.ext fp.2 h1;have h2 := Num.ext fp.2 h2;have e8 := xt e8 fp.2;refine al inf125 (fun gk fo fu => ?_);have h1 := Num.ext fo.2 h1;have h2 := Num.ext fo.2 h2;have fq := be fo.2 fq;have e8 := xt e8 fo.2;refine SA fq (fun gl fj fd => ?_);have h1 := Num.putU fj (fun ad e => by have := uh1 ad e; omega) h1;have h2 := Num.putU fj (fun ad e => by have := uh2 ad e; omega) h2;have fu := pb fj fu;have e8 := plw fj e8;have gm := psz fj;refine SA fu (fun gn fk fi => ?_);have h1 := Num.putU fk (fun ad e => by have := uh1 ad e; omega) h1;have h2 := Num.putU fk (fun ad e => by have := uh2 ad e; omega) h2;have fd := pb fk fd;have e8 := plw fk e8;have gp := psz fk;refine go ?_;rcases Bool.eq_false_or_eq_true (neg a) with fg | fg;refine go ?_;rcases Bool.eq_false_or_eq_true (neg b) with fv | fv;refine go ?_;refine clb en110 (hc := compare_ok h2 om h1) (hk := ?_);rintro gq gu fl rfl;have e8 := xt e8 fl.2;refine go ?_;exact f_ret1 (t := 4) (v := .int .i64 (cmpI ((valN (body b) : Nat) : Int) ((valN (body a) : Nat) : Int))) rfl e8 (congrArg (Value.int .i64) (by first | exact cmp_nn hno (by assumption) (by assumption) | exact cmp_np hno (by assumption) (by assumption) | exact cmp_pn hno (by assumption) (by assumption) | exact cmp_pp hno (by assumption) (by assumption))) rfl
 refine go ?_;exact f_ret1 (t := 4) (v := .int .i64 ((-1))) rfl e8 (congrArg (Value.int .i64) (by first | exact cmp_nn hno (by assumption) (by assumption) | exact cmp_np hno (by assumption) (by assumption) | exact cmp_pn hno (by assumption) (by assumption) | exact cmp_pp hno (by assumption) (by assumption))) rfl;refine go ?_;rcases Bool.eq_false_or_eq_true (neg b) with fw | fw;refine go ?_;exact f_ret1 (t := 4) (v := .int .i64 (1)) rfl e8 (congrArg (Value.int .i64) (by first | exact cmp_nn hno (by assumption) (by assumption) | exact cmp_np hno (by assumption) (by assumption) | exact cmp_pn hno (by assumption) (by assumption) | exact cmp_pp hno (by assumption) (by assumption))) rfl;refine go ?_;refine clb en110 (hc := compare_ok h1 om h2) (hk := ?_);rintro gv gw fm rfl;have e8 := xt e8 fm.2;refine go ?_;exact f_ret1 (t := 4) (v := .int .i64 (cmpI ((valN (body a) : Nat) : Int) ((valN (body b) : Nat) : Int))) rfl e8 (congrArg (Value.int .i64) (by first | exact cmp_nn hno (by assumption) (by assumption) | exact cmp_np hno (by assumption) (by assumption) | exact cmp_pn hno (by assumption) (by assumption) | exact cmp_pp hno (by assumption) (by assumption))) rfl;have hno := and_no hno;refine f_in Tryz.func74 rfl ?_;refine go ?_;refine cl en104 (both_no _ _ _ hno) ?_;rintro gy gd gg rfl;have fh := gg.2;refine go ?_;refine al inf125 (fun gh gi fx => ?_);have fh := xt fh gi.2;refine al inf125 (fun gz f8 fy => ?_);have fx := be f8.2 fx;have fh := xt fh f8.2
 refine SA fx (fun g6 f6 f9 => ?_);have fy := pb f6 fy;have fh := plw f6 fh;have g7 := psz f6;refine SA fy (fun g8 f7 g9 => ?_);have f9 := pb f7 f9;have fh := plw f7 fh;have ia := psz f7;refine go ?_;exact f_ret1 (t := 4) (v := .int .i64 (0)) rfl fh (by rw [cmpS_no hno]) rfl
end Go.Proofs.YtepcnphmfbbhiaaGreatDoor
