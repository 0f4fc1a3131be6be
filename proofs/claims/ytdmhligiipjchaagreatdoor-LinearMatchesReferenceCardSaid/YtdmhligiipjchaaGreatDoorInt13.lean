/- Part of the proof that all functions of the layer agree with the reference implementation. -/
import Derived.Test.YtdmhligiipjchaaGreatDoorInt12
import Derived.Test.YtdmhligiipjchaaGreatDoorEngH
set_option linter.all false
namespace Go.Proofs.YtdmhligiipjchaaGreatDoor
set_option maxRecDepth 100000
open Go Go.Eng Go.RowKit
attribute [local irreducible] wpListIn Code.wpIn Oper.wpIn Exit.then Exit.inBlock Exit.noGoto
set_option maxHeartbeats 40000000
theorem num_len {w : World} {lo n c a k : Nat} {A : Option Addr} (h : Num w lo A n c a) (hl : a < 10000 ^ k) : n ≤ k := by rw [← h.len]; exact (length_toB_le_iff 10000 om a k).2 hl
theorem val_lt {l : List UInt8} (h : isInt l = true) : valN (body l) < 10000 ^ 50 := Nat.lt_of_lt_of_le (valN_lt (isInt_num h)) dc
theorem sgn_val (l : List UInt8) : sgn (neg l) (valN (body l)) = valZ l := rfl
theorem sgn_not (ng : Bool) (a : Nat) : sgn (!ng) a = -sgn ng a := by cases ng <;> simp [sgn]
theorem and_no {a b : Bool} (h : ¬ (a && b) = true) : (a && b) = false := by simpa using h
theorem and_l {a b : Bool} (h : (a && b) = true) : a = true := by simp at h; exact h.1
theorem and_r {a b : Bool} (h : (a && b) = true) : b = true := by simp at h; exact h.2
theorem addI_ok {a b : List UInt8} (h : (isInt a && isInt b) = true) : addI a b = outI (valZ a + valZ b) := by unfold addI; rw [if_pos h]
theorem addI_no {a b : List UInt8} (h : (isInt a && isInt b) = false) : addI a b = none := by unfold addI; rw [h]; rfl
theorem subI_ok {a b : List UInt8} (h : (isInt a && isInt b) = true) : subI a b = outI (valZ a - valZ b) := by unfold subI; rw [if_pos h]
theorem subI_no {a b : List UInt8} (h : (isInt a && isInt b) = false) : subI a b = none := by unfold subI; rw [h]; rfl
theorem mulI_ok {a b : List UInt8} (h : (isInt a && isInt b) = true) : mulI a b = outI (valZ a * valZ b) := by unfold mulI; rw [if_pos h]
theorem mulI_no {a b : List UInt8} (h : (isInt a && isInt b) = false) : mulI a b = none := by unfold mulI; rw [h]; rfl
theorem gcdI_no {a b : List UInt8} (h : (isInt a && isInt b) = false) : gcdI a b = none := by unfold gcdI; rw [h]; rfl
theorem cmpS_no {a b : List UInt8} (h : (isInt a && isInt b) = false) : cmpS a b = 0 := by unfold cmpS; rw [h]; rfl
theorem gcdI_ok {a b : List UInt8} (h : (isInt a && isInt b) = true) : gcdI a b = outI (sgn false (Nat.gcd (valN (body a)) (valN (body b)))) := by
  unfold gcdI; rw [if_pos h]
  have : Int.gcd (valZ a) (valZ b) = Nat.gcd (valN (body a)) (valN (body b)) := by rw [Int.gcd, valZ_natAbs, valZ_natAbs]
  rw [this]; rfl
theorem sgn_mul (x y : Bool) (a b : Nat) : sgn (!(x == y)) (a * b) = sgn x a * sgn y b := by cases x <;> cases y <;> simp [sgn, Int.neg_mul, Int.mul_neg]
theorem sum_lt {a b : List UInt8} (ha : isInt a = true) (hb : isInt b = true) {ng : Bool} {r : Nat} {s : Int} (h : sgn ng r = valZ a + s) (hs : s = valZ b ∨ s = -valZ b) : r < 10000 ^ 51 := by
  have h1 := val_lt ha
  have h2 := val_lt hb
  have e : (sgn ng r).natAbs = r := natAbs_sgn ng r
  have ea := valZ_natAbs a
  have eb := valZ_natAbs b
  have : (10000 : Nat) ^ 51 = 10000 ^ 50 * 10000 := by rw [← Nat.pow_succ]
  generalize (10000 : Nat) ^ 50 = M at *
  omega
theorem cmp_nn {a b : List UInt8} (h : (isInt a && isInt b) = true) (ha : neg a = true) (hb : neg b = true) : cmpI ((valN (body b) : Nat) : Int) ((valN (body a) : Nat) : Int) = cmpS a b := by
  unfold cmpS; rw [if_pos h]
  refine cmpI_congr ?_ ?_ <;> (unfold valZ; rw [if_pos ha, if_pos hb]; omega)
theorem cmp_np {a b : List UInt8} (h : (isInt a && isInt b) = true) (ha : neg a = true) (hb : neg b = false) : (-1 : Int) = cmpS a b := by
  unfold cmpS; rw [if_pos h, cmpI_lt]
  have := valN_pos (isInt_num (and_l h)) (isInt_neg0 (and_l h) ha)
  unfold valZ; rw [if_pos ha, if_neg (by simp [hb])]; omega
theorem cmp_pn {a b : List UInt8} (h : (isInt a && isInt b) = true) (ha : neg a = false) (hb : neg b = true) : (1 : Int) = cmpS a b := by
  unfold cmpS; rw [if_pos h, cmpI_gt]
  have := valN_pos (isInt_num (and_r h)) (isInt_neg0 (and_r h) hb)
  have e1 : valZ a = (valN (body a) : Int) := by unfold valZ; rw [if_neg (by simp [ha])]
  have e2 : valZ b = -(valN (body b) : Int) := by unfold valZ; rw [if_pos hb]
  rw [e1, e2]; omega
theorem cmp_pp {a b : List UInt8} (h : (isInt a && isInt b) = true) (ha : neg a = false) (hb : neg b = false) : cmpI ((valN (body a) : Nat) : Int) ((valN (body b) : Nat) : Int) = cmpS a b := by
  unfold cmpS; rw [if_pos h]
  unfold valZ; rw [if_neg (by simp [ha]), if_neg (by simp [hb])]
def resD (o : Option (List UInt8 × List UInt8)) : Value := .tuple #[S (rS (o.map (·.1))), S (rS (o.map (·.2))), .int .i64 (if o.isSome then 0 else 30)]
theorem divI_no {a b : List UInt8} (h : (isInt a && isInt b) = false) : divI a b = none := by unfold divI; rw [h]; rfl
theorem divI_z {a b : List UInt8} (h : valN (body b) = 0) : divI a b = none := by
  unfold divI
  by_cases hb : isInt b = true
  · have : b = [48] := (valZ_eq_zero hb).1 (by have := valZ_natAbs b; omega)
    simp [this]
  · simp [hb]
theorem divI_ok {a b : List UInt8} (h : (isInt a && isInt b) = true) (h0 : 0 < valN (body b)) : divI a b = (outI (valZ a / valZ b)).map fun q => (q, showI (valZ a % valZ b)) := by
  have hb : b ≠ [48] := by intro e; subst e; exact absurd valN_zero (by have : body [48] = [48] := rfl; rw [this] at h0; omega)
  unfold divI
  rw [h, decide_eq_true hb]; rfl
theorem ediv_sgn (ny : Bool) (x : Int) (b : Nat) : x / sgn ny b = (if ny then -(x / (b : Int)) else x / (b : Int)) ∧ x % sgn ny b = x % (b : Int) := by
  cases ny
  · simp [sgn]
  · simp [sgn, Int.ediv_neg, Int.emod_neg]
theorem div_plain {nx ny : Bool} {a b : Nat} (hb : 0 < b) (hc : nx = false ∨ a % b = 0) : sgn (!(nx == ny)) (a / b) = sgn nx a / sgn ny b ∧ ((a % b : Nat) : Int) = sgn nx a % sgn ny b := by
  obtain ⟨e1, e2⟩ := ediv_sgn ny (sgn nx a) b
  rw [e1, e2]
  cases nx with
  | false =>
    simp only [sgn, Bool.false_eq_true, if_false]
    cases ny <;> simp
  | true =>
    have hz : a % b = 0 := by rcases hc with h | h; cases h; exact h
    have hd : (b : Int) ∣ (a : Int) := Int.natCast_dvd_natCast.2 (Nat.dvd_of_mod_eq_zero hz)
    simp only [sgn, if_true]
    rw [Int.neg_ediv_of_dvd hd, Int.emod_eq_zero_of_dvd (Int.dvd_neg.2 hd), hz]
    cases ny <;> simp
theorem div_round {ny : Bool} {a b : Nat} (hb : 0 < b) (hr : 0 < a % b) : sgn (!(true == ny)) (a / b + 1) = sgn true a / sgn ny b ∧ ((b - a % b : Nat) : Int) = sgn true a % sgn ny b := by
  obtain ⟨e1, e2⟩ := ediv_sgn ny (sgn true a) b
  rw [e1, e2]
  have hlt := Nat.mod_lt a hb
  have hdm := Nat.div_add_mod a b
  have key : (-(a : Int)) / (b : Int) = -((a / b : Nat) : Int) - 1 ∧ (-(a : Int)) % (b : Int) = ((b - a % b : Nat) : Int) := by
    refine (Int.ediv_emod_unique om).2 ⟨?_, by omega, by omega⟩
    have h3 : (a : Int) = (b : Int) * ((a / b : Nat) : Int) + ((a % b : Nat) : Int) := by rw [← Int.natCast_mul, ← Int.natCast_add, hdm]
    rw [Int.mul_sub, Int.mul_neg]
    omega
  simp only [sgn, if_true]
  rw [key.1, key.2]
  cases ny <;> simp <;> omega
theorem rS_rem {r : Nat} {x : Int} (hr : r < 10 ^ 200) (h : (r : Int) = x) : rS (outI (sgn false r)) = showI x := by
  have hf : fits x = true := by unfold fits; rw [decide_eq_true_eq]; omega
  have e : sgn false r = x := h
  rw [e]; unfold outI; rw [if_pos hf]; rfl
theorem mod_lt_pow {b : List UInt8} {r : Nat} (hb : isInt b = true) (h : r ≤ valN (body b)) : r < 10 ^ 200 := Nat.lt_of_le_of_lt h (valN_lt (isInt_num hb))
theorem rE_zero {o : Option (List UInt8)} (h : rE o = 0) : ∃ s, o = some s := by cases o with | none => simp [rE] at h | some s => exact ⟨s, rfl⟩
theorem rE_ne {o : Option (List UInt8)} (h : ¬ rE o = 0) : o = none := by cases o with | none => rfl | some s => simp [rE] at h
theorem div_out {a b : List UInt8} {q r : Nat} {ng : Bool} (h : (isInt a && isInt b) = true) (h0 : 0 < valN (body b)) (hq : sgn ng q = valZ a / valZ b) (hr : (r : Int) = valZ a % valZ b) (hl : r ≤ valN (body b)) (hE : rE (outI (sgn ng q)) = 0) :
    Value.tuple #[S (rS (outI (sgn ng q))), S (rS (outI (sgn false r))), .int .i64 0] = resD (divI a b) := by
  rw [divI_ok h h0, rS_rem (mod_lt_pow (and_r h) hl) hr, ← hq]
  obtain ⟨s, hs⟩ := rE_zero hE
  rw [hs]; rfl
theorem div_bad {a b : List UInt8} {q : Nat} {ng : Bool} (h : (isInt a && isInt b) = true) (h0 : 0 < valN (body b)) (hq : sgn ng q = valZ a / valZ b) (hE : ¬ rE (outI (sgn ng q)) = 0) :
    Value.tuple #[S [], S [], .int .i64 (rE (outI (sgn ng q)))] = resD (divI a b) := by
  rw [divI_ok h h0, ← hq, rE_ne hE]; rfl
theorem prod_lt {a b : List UInt8} (ha : isInt a = true) (hb : isInt b = true) : valN (body a) * valN (body b) < 10000 ^ 100 := by
  have h1 := val_lt ha
  have h2 := val_lt hb
  have : (10000 : Nat) ^ 100 = 10000 ^ 50 * 10000 ^ 50 := by rw [← Nat.pow_add]
  rw [this]
  exact Nat.mul_lt_mul'' h1 h2
def SgPost (lo : Nat) (ng : Bool) (a : Nat) (v : Value) (w : World) : Prop := ∃ A n c, v = .agg #[.bool ng, .slice A n c] ∧ Num w lo A n c a
theorem SgPost.ext {lo a : Nat} {ng : Bool} {v : Value} {w w' : World} (k : Ext w w') (h : SgPost lo ng a v w) : SgPost lo ng a v w' := by
  obtain ⟨A, n, c, hv, hn⟩ := h
  exact ⟨A, n, c, hv, hn.ext k⟩
theorem iAdd_ok (a b : List UInt8) (w : World) (ht : Tb w) :
    Calls Tryz.prog 222 #[S (a), S (b)] w (Ret w fun v w' => v = resI (addI a b)) := by
 by_cases hno : (isInt a && isInt b) = true;have ha := and_l hno;have hb := and_r hno;refine f_in Tryz.func222 rfl ?_;refine go ?_;refine cl en104 (both_ok _ _ _ ha hb) ?_;rintro bi ax a8 ⟨A1, n1, c1, A2, n2, c2, rfl, h1, h2⟩;have aa := a8.2;have l1 := num_len h1 (val_lt ha);have l2 := num_len h2 (val_lt hb);have uh1 := h1.hi;have uh2 := h2.hi;refine go ?_;refine al inf125 (fun ay ao ap => ?_);have h1 := Num.ext ao.2 h1;have h2 := Num.ext ao.2 h2;have aa := xt aa ao.2;refine al inf125 (fun bj am aq => ?_);have h1 := Num.ext am.2 h1;have h2 := Num.ext am.2 h2;have ap := be am.2 ap;have aa := xt aa am.2;refine SA ap (fun bl ah ae => ?_);have h1 := Num.putU ah (fun ad e => by have := uh1 ad e; omega) h1;have h2 := Num.putU ah (fun ad e => by have := uh2 ad e; omega) h2;have aq := pb ah aq;have aa := plw ah aa;have bm := psz ah;refine SA aq (fun bn ai aj => ?_);have h1 := Num.putU ai (fun ad e => by have := uh1 ad e; omega) h1;have h2 := Num.putU ai (fun ad e => by have := uh2 ad e; omega) h2;have ae := pb ai ae;have aa := plw ai aa;have bo := psz ai;refine go ?_;refine clb en228 (hc := splus_ok h1 om h2 om) (hk := ?_);rintro bp bq ak ⟨ng, r, A, n, c, rfl, hr, hs⟩;have aa := xt aa ak.2;rw [sgn_val, sgn_val] at hs;have lr := num_len hr (sum_lt ha hb hs (by exact Or.inl rfl));refine clb en109 (hc := stext_ok hr om (ht.ext aa)) (hk := ?_);rintro br bu ag rfl;have aa := xt aa ag.2
 refine go ?_;exact f_ret2 (t := 4) (u := 5) (v1 := S (rS (outI (sgn ng r)))) (v2 := .int .i64 (rE (outI (sgn ng r)))) rfl aa (by rw [addI_ok hno]; exact congrArg (fun x => resI (outI x)) hs) rfl rfl;have hno := and_no hno;refine f_in Tryz.func222 rfl ?_;refine go ?_;refine cl en104 (both_no _ _ _ hno) ?_;rintro bv bc bf rfl;have ab := bf.2;refine go ?_;refine al inf125 (fun bg bh ar => ?_);have ab := xt ab bh.2;refine al inf125 (fun bw az au => ?_);have ar := be az.2 ar;have ab := xt ab az.2;refine SA ar (fun b4 av a7 => ?_);have au := pb av au;have ab := plw av ab;have b5 := psz av;refine SA au (fun b6 aw b7 => ?_);have a7 := pb aw a7;have ab := plw aw ab;have b8 := psz aw;refine go ?_;exact f_ret2 (t := 4) (u := 5) (v1 := S ([])) (v2 := .int .i64 (30)) rfl ab (by rw [addI_no hno]; rfl) rfl rfl
theorem iSub_ok (a b : List UInt8) (w : World) (ht : Tb w) :
    Calls Tryz.prog 226 #[S (a), S (b)] w (Ret w fun v w' => v = resI (subI a b)) := by
 by_cases hno : (isInt a && isInt b) = true;have ha := and_l hno;have hb := and_r hno;refine f_in Tryz.func226 rfl ?_;refine go ?_;refine cl en104 (both_ok _ _ _ ha hb) ?_;rintro bl az bf ⟨A1, n1, c1, A2, n2, c2, rfl, h1, h2⟩;have aa := bf.2;have l1 := num_len h1 (val_lt ha);have l2 := num_len h2 (val_lt hb);have uh1 := h1.hi;have uh2 := h2.hi;refine go ?_;refine al inf125 (fun ag aq ar => ?_);have h1 := Num.ext aq.2 h1;have h2 := Num.ext aq.2 h2;have aa := xt aa aq.2;refine al inf125 (fun bm ap au => ?_);have h1 := Num.ext ap.2 h1;have h2 := Num.ext ap.2 h2;have ar := be ap.2 ar;have aa := xt aa ap.2;refine SA ar (fun bn ai ab => ?_);have h1 := Num.putU ai (fun ad e => by have := uh1 ad e; omega) h1;have h2 := Num.putU ai (fun ad e => by have := uh2 ad e; omega) h2;have au := pb ai au;have aa := plw ai aa;have bo := psz ai;refine SA au (fun bp aj a7 => ?_);have h1 := Num.putU aj (fun ad e => by have := uh1 ad e; omega) h1;have h2 := Num.putU aj (fun ad e => by have := uh2 ad e; omega) h2;have ab := pb aj ab;have aa := plw aj aa;have bq := psz aj;refine go ?_;refine SO a7 (fun br ak am => ?_);have h1 := Num.putU ak (fun ad e => by have := uh1 ad e; omega) h1;have h2 := Num.putU ak (fun ad e => by have := uh2 ad e; omega) h2;have ab := pb ak ab;have aa := plw ak aa;have bu := psz ak;refine go ?_;refine clb en228 (hc := splus_ok h1 om h2 om) (hk := ?_)
 rintro bv bw ao ⟨ng, r, A, n, c, rfl, hr, hs⟩;have aa := xt aa ao.2;rw [sgn_val, sgn_not, sgn_val] at hs;have lr := num_len hr (sum_lt ha hb hs (by exact Or.inr rfl));refine clb en109 (hc := stext_ok hr om (ht.ext aa)) (hk := ?_);rintro b4 b5 ah rfl;have aa := xt aa ah.2;refine go ?_;exact f_ret2 (t := 4) (u := 5) (v1 := S (rS (outI (sgn ng r)))) (v2 := .int .i64 (rE (outI (sgn ng r)))) rfl aa (by rw [subI_ok hno]; rw [show valZ a - valZ b = valZ a + -valZ b from rfl]; exact congrArg (fun x => resI (outI x)) hs) rfl rfl;have hno := and_no hno;refine f_in Tryz.func226 rfl ?_;refine go ?_;refine cl en104 (both_no _ _ _ hno) ?_;rintro b6 bg bh rfl;have ae := bh.2;refine go ?_;refine al inf125 (fun bi bj av => ?_);have ae := xt ae bj.2;refine al inf125 (fun b7 a8 aw => ?_);have av := be a8.2 av;have ae := xt ae a8.2;refine SA av (fun b8 ax bc => ?_);have aw := pb ax aw;have ae := plw ax ae;have b9 := psz ax;refine SA aw (fun ca ay cd => ?_);have bc := pb ay bc;have ae := plw ay ae;have ce := psz ay;refine go ?_;exact f_ret2 (t := 4) (u := 5) (v1 := S ([])) (v2 := .int .i64 (30)) rfl ae (by rw [subI_no hno]; rfl) rfl rfl
theorem iMul_ok (a b : List UInt8) (w : World) (ht : Tb w) :
    Calls Tryz.prog 229 #[S (a), S (b)] w (Ret w fun v w' => v = resI (mulI a b)) := by
 by_cases hno : (isInt a && isInt b) = true;have ha := and_l hno;have hb := and_r hno;refine f_in Tryz.func229 rfl ?_;refine go ?_;refine cl en104 (both_ok _ _ _ ha hb) ?_;rintro cj ai bv ⟨A1, n1, c1, A2, n2, c2, rfl, h1, h2⟩;have ae := bv.2;have l1 := num_len h1 (val_lt ha);have l2 := num_len h2 (val_lt hb);have uh1 := h1.hi;have uh2 := h2.hi;refine go ?_;refine al inf125 (fun aj bj bl => ?_);have h1 := Num.ext bj.2 h1;have h2 := Num.ext bj.2 h2;have ae := xt ae bj.2;refine al inf125 (fun ck au bm => ?_);have h1 := Num.ext au.2 h1;have h2 := Num.ext au.2 h2;have bl := be au.2 bl;have ae := xt ae au.2;refine SA bl (fun cn ak aa => ?_);have h1 := Num.putU ak (fun ad e => by have := uh1 ad e; omega) h1;have h2 := Num.putU ak (fun ad e => by have := uh2 ad e; omega) h2;have bm := pb ak bm;have ae := plw ak ae;have ct := psz ak;refine SA bm (fun bw am ab => ?_);have h1 := Num.putU am (fun ad e => by have := uh1 ad e; omega) h1;have h2 := Num.putU am (fun ad e => by have := uh2 ad e; omega) h2;have aa := pb am aa;have ae := plw am ae;have cu := psz am;refine go ?_;obtain ⟨L, hL⟩ : ∃ L, L = bw.heap.size := ⟨_, rfl⟩;have lr0 := prod_lt ha hb;refine c_an 14 ?_;refine sf ?_;refine sf_ap (fun di dj az dk => by refine l_op (k_neqB (a := neg a) (b := neg b) (q := (!((neg a) == (neg b)))) U4 rfl rfl rfl ?_);refine go ?_;exact finp) ?_
 refine sf ?_;refine sf_ah (fun v w => NumPost L (valN (body a) * valN (body b)) v w) (hs := fun _ _ _ k h => h.ext k) (fun dz d6 ao d7 => ?_) ?_;have h1 := Num.ext ao h1;have h2 := Num.ext ao h2;refine clb en231 (hc := times_ok h1 om h2 om) (hk := ?_);rintro d8 d9 ap ⟨Ar, nr, cr, rfl, hr⟩;have b4 := ap.2;have hr := hr.mono (lo' := L) (by have := bz ao; omega);refine go ?_;exact fs ⟨b4, ⟨Ar, nr, cr, rfl, hr⟩⟩;refine sf_ah (fun v w => SgPost L (!(neg a == neg b)) (valN (body a) * valN (body b)) v w) (hs := fun _ _ _ k h => h.ext k) (fun ec ee bg b5 => ?_) ?_;obtain ⟨Ar, nr, cr, b6, hr⟩ := (b5 9 27 rfl rfl);refine l_op (k_build (vs := [(0, .bool ((!((neg a) == (neg b))))), (1, .slice (Ar) (nr) (cr))]) (cells := #[.bool ((!((neg a) == (neg b)))), .slice (Ar) (nr) (cr)]) (pl := [(0, 1), (1, 1)]) U125 inf125 (by kernel_rfl) (cons_eqp rfl (cons_eqp b6 rfl)) (by kernel_rfl) ?_);refine go ?_;exact fs ⟨Ext.refl _, ⟨Ar, nr, cr, rfl, hr⟩⟩;refine sf_ae (V := .tuple #[S (rS (outI (sgn (!(neg a == neg b)) (valN (body a) * valN (body b))))), .int .i64 (rE (outI (sgn (!(neg a == neg b)) (valN (body a) * valN (body b)))))]) (fun ef eh aq b7 => ?_) ?_;obtain ⟨Aq, nq, cq, b8, hq⟩ := (b7 10 28 rfl rfl);have lq := num_len hq (prod_lt ha hb);refine clb en109 (hc := stext_ok hq om (ht.ext (xt ae aq))) (hk := ?_) (hv := cons_eq b8 rfl);rintro ei ej ah rfl;have b9 := ah.2;refine go ?_;exact fs ⟨b9, rfl⟩;refine sf ?_;intro ey ez ar e8;have ae := xt ae ar.2
 refine go ?_;exact f_ret2 (t := 4) (u := 5) (v1 := S (rS (outI (sgn (!(neg a == neg b)) (valN (body a) * valN (body b)))))) (v2 := .int .i64 (rE (outI (sgn (!(neg a == neg b)) (valN (body a) * valN (body b)))))) rfl ae (by rw [mulI_ok hno, ← sgn_val, ← sgn_val, ← sgn_mul]; rfl) rfl rfl;have hno := and_no hno;refine f_in Tryz.func229 rfl ?_;refine go ?_;refine cl en104 (both_no _ _ _ hno) ?_;rintro fa ca cd rfl;have ag := cd.2;refine go ?_;refine al inf125 (fun ce cg bn => ?_);have ag := xt ag cg.2;refine al inf125 (fun fb br bo => ?_);have bn := be br.2 bn;have ag := xt ag br.2;refine SA bn (fun fc bp bu => ?_);have bo := pb bp bo;have ag := plw bp ag;have fd := psz bp;refine SA bo (fun fe bq fg => ?_);have bu := pb bq bu;have ag := plw bq ag;have fh := psz bq;refine go ?_;exact f_ret2 (t := 4) (u := 5) (v1 := S ([])) (v2 := .int .i64 (30)) rfl ag (by rw [mulI_no hno]; rfl) rfl rfl
theorem iCmp_ok (a b : List UInt8) (w : World) :
    Calls Tryz.prog 84 #[S (a), S (b)] w (Ret w fun v w' => v = .int .i64 (cmpS a b)) := by
 by_cases hno : (isInt a && isInt b) = true;have ha := and_l hno;have hb := and_r hno;refine f_in Tryz.func84 rfl ?_;refine go ?_;refine cl en104 (both_ok _ _ _ ha hb) ?_;rintro bm ab bg ⟨A1, n1, c1, A2, n2, c2, rfl, h1, h2⟩;have aa := bg.2;have l1 := num_len h1 (val_lt ha);have l2 := num_len h2 (val_lt hb);have uh1 := h1.hi;have uh2 := h2.hi;refine go ?_;refine al inf125 (fun ag ar au => ?_);have h1 := Num.ext ar.2 h1;have h2 := Num.ext ar.2 h2;have aa := xt aa ar.2;refine al inf125 (fun bn aq av => ?_);have h1 := Num.ext aq.2 h1;have h2 := Num.ext aq.2 h2;have au := be aq.2 au;have aa := xt aa aq.2;refine SA au (fun bo ak ae => ?_);have h1 := Num.putU ak (fun ad e => by have := uh1 ad e; omega) h1;have h2 := Num.putU ak (fun ad e => by have := uh2 ad e; omega) h2;have av := pb ak av;have aa := plw ak aa;have bp := psz ak;refine SA av (fun bq am aj => ?_);have h1 := Num.putU am (fun ad e => by have := uh1 ad e; omega) h1;have h2 := Num.putU am (fun ad e => by have := uh2 ad e; omega) h2;have ae := pb am ae;have aa := plw am aa;have br := psz am;refine go ?_;rcases Bool.eq_false_or_eq_true (neg a) with ah | ah;refine go ?_;rcases Bool.eq_false_or_eq_true (neg b) with aw | aw;refine go ?_;refine clb en110 (hc := compare_ok h2 om h1) (hk := ?_);rintro bu bv ao rfl;have aa := xt aa ao.2;refine go ?_;exact f_ret1 (t := 4) (v := .int .i64 (cmpI ((valN (body b) : Nat) : Int) ((valN (body a) : Nat) : Int))) rfl aa (congrArg (Value.int .i64) (by first | exact cmp_nn hno (by assumption) (by assumption) | exact cmp_np hno (by assumption) (by assumption) | exact cmp_pn hno (by assumption) (by assumption) | exact cmp_pp hno (by assumption) (by assumption))) rfl
 refine go ?_;exact f_ret1 (t := 4) (v := .int .i64 ((-1))) rfl aa (congrArg (Value.int .i64) (by first | exact cmp_nn hno (by assumption) (by assumption) | exact cmp_np hno (by assumption) (by assumption) | exact cmp_pn hno (by assumption) (by assumption) | exact cmp_pp hno (by assumption) (by assumption))) rfl;refine go ?_;rcases Bool.eq_false_or_eq_true (neg b) with ax | ax;refine go ?_;exact f_ret1 (t := 4) (v := .int .i64 (1)) rfl aa (congrArg (Value.int .i64) (by first | exact cmp_nn hno (by assumption) (by assumption) | exact cmp_np hno (by assumption) (by assumption) | exact cmp_pn hno (by assumption) (by assumption) | exact cmp_pp hno (by assumption) (by assumption))) rfl;refine go ?_;refine clb en110 (hc := compare_ok h1 om h2) (hk := ?_);rintro bw b4 ap rfl;have aa := xt aa ap.2;refine go ?_;exact f_ret1 (t := 4) (v := .int .i64 (cmpI ((valN (body a) : Nat) : Int) ((valN (body b) : Nat) : Int))) rfl aa (congrArg (Value.int .i64) (by first | exact cmp_nn hno (by assumption) (by assumption) | exact cmp_np hno (by assumption) (by assumption) | exact cmp_pn hno (by assumption) (by assumption) | exact cmp_pp hno (by assumption) (by assumption))) rfl;have hno := and_no hno;refine f_in Tryz.func84 rfl ?_;refine go ?_;refine cl en104 (both_no _ _ _ hno) ?_;rintro b5 bh bi rfl;have ai := bi.2;refine go ?_;refine al inf125 (fun bj bl ay => ?_);have ai := xt ai bl.2;refine al inf125 (fun b6 bc az => ?_);have ay := be bc.2 ay;have ai := xt ai bc.2
 refine SA ay (fun b7 a7 bf => ?_);have az := pb a7 az;have ai := plw a7 ai;have b8 := psz a7;refine SA az (fun b9 a8 ca => ?_);have bf := pb a8 bf;have ai := plw a8 ai;have cd := psz a8;refine go ?_;exact f_ret1 (t := 4) (v := .int .i64 (0)) rfl ai (by rw [cmpS_no hno]) rfl
end Go.Proofs.YtdmhligiipjchaaGreatDoor
