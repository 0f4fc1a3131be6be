/- Part of the proof that all functions of the layer agree with the reference implementation. -/
import Derived.Test.YtdmhligiipjchaaGreatDoorRat2
import Derived.Test.YtdmhligiipjchaaGreatDoorEngH
set_option linter.all false
namespace Go.Proofs.YtdmhligiipjchaaGreatDoor
open Go Go.Eng Go.RowKit
attribute [local irreducible] wpListIn Code.wpIn Oper.wpIn Exit.then Exit.inBlock Exit.noGoto
set_option maxHeartbeats 40000000
theorem okR_zero : okR ([48], [49]) = true := by decide +kernel
theorem okR_pos {a : R} (h : okR a = true) : 0 < valZ a.2 := by
  have h2 := okR_2 h
  simp only [okR, Bool.and_eq_true, Bool.not_eq_true', decide_eq_false_iff_not] at h
  have := h.1.2
  rw [cmpS_zero h2, cmpI_nonpos] at this
  omega
theorem divI_zero : divI [48] [49] = some ([48], [48]) := by decide +kernel
theorem body_pos {l : List UInt8} (h : 0 < valZ l) : 0 < valN (body l) := by have := valZ_natAbs l; omega
theorem div_R {a : R} (h : okR a = true) : divI a.1 a.2 = some (showI (valZ a.1 / valZ a.2), showI (valZ a.1 % valZ a.2)) := by
  have hp := okR_pos h
  rw [divI_ok (by rw [okR_1 h, okR_2 h]; rfl) (body_pos hp)]
  have hf : fits (valZ a.1 / valZ a.2) = true := by
    refine fits_le (fits_val (okR_1 h)) ?_
    obtain ⟨d, hd⟩ : ∃ d : Nat, valZ a.2 = (d : Int) := ⟨(valZ a.2).toNat, by omega⟩
    rw [hd] at hp ⊢
    rcases Int.le_total 0 (valZ a.1) with h0 | h0
    · have h1 := Int.ediv_nonneg h0 (Int.le_of_lt hp)
      have h2 := Int.ediv_le_self (b := (d : Int)) h0
      omega
    · have h1 : valZ a.1 / (d : Int) ≤ 0 := Int.ediv_nonpos_of_nonpos_of_neg h0 hp
      have h2 : valZ a.1 ≤ valZ a.1 / (d : Int) := by
        refine Int.le_ediv_of_mul_le hp ?_
        have h7 : 0 ≤ (-valZ a.1) * ((d : Int) - 1) := Int.mul_nonneg om om
        rw [Int.neg_mul, Int.mul_sub, Int.mul_one] at h7
        omega
      omega
  unfold outI; rw [if_pos hf]; rfl
def sgnI (x : Int) : Int := cmpI x 0
theorem fits_mod {a : R} (h : okR a = true) : fits (valZ a.1 % valZ a.2) = true := by
  have hp := okR_pos h
  refine fits_le (fits_val (okR_2 h)) ?_
  have h1 := Int.emod_nonneg (valZ a.1) (show valZ a.2 ≠ 0 by omega)
  have h2 := Int.emod_lt_of_pos (valZ a.1) hp
  omega
theorem whole_cmp {a : R} (h : okR a = true) : cmpS (showI (valZ a.1 / valZ a.2)) [48] = cmpI (valZ a.1 / valZ a.2) 0 := by
  have hd := div_R h
  have hf : fits (valZ a.1 / valZ a.2) = true := by
    rw [divI_ok (by rw [okR_1 h, okR_2 h]; rfl) (body_pos (okR_pos h))] at hd
    cases hh : fits (valZ a.1 / valZ a.2) with
    | true => rfl
    | false => unfold outI at hd; rw [hh] at hd; simp at hd
  rw [cmpS_zero (isInt_showI hf), valZ_showI]
theorem rem_zero {a : R} (h : okR a = true) : (showI (valZ a.1 % valZ a.2) = [48]) ↔ valZ a.1 % valZ a.2 = 0 := by
  rw [← valZ_eq_zero (isInt_showI (fits_mod h)), valZ_showI]
theorem cmp_c1 {a : R} (h : okR a = true) (h1 : ¬ cmpS (showI (valZ a.1 / valZ a.2)) [48] = 0) : cmpS (showI (valZ a.1 / valZ a.2)) [48] = sgnI (valZ a.1) := by
  rw [whole_cmp h] at *
  have hp := okR_pos h
  unfold sgnI
  refine cmpI_congr ?_ ?_
  · constructor
    · intro hh
      by_cases h9 : valZ a.1 < 0
      · exact h9
      · have := Int.ediv_nonneg (Int.not_lt.1 h9) (Int.le_of_lt hp); omega
    · intro hh; exact Int.ediv_neg_of_neg_of_pos hh hp
  · constructor
    · intro hh; rw [hh] at h1; exact absurd (cmpI_eq rfl) h1
    · intro hh; rw [hh]; simp
theorem cmp_q0 {a : R} (h : okR a = true) (h1 : cmpS (showI (valZ a.1 / valZ a.2)) [48] = 0) : 0 ≤ valZ a.1 ∧ valZ a.1 % valZ a.2 = valZ a.1 := by
  rw [whole_cmp h] at h1
  have hp := okR_pos h
  have hq : valZ a.1 / valZ a.2 = 0 := by
    unfold cmpI at h1
    split at h1
    · omega
    · split at h1
      · assumption
      · omega
  have h2 := Int.emod_add_mul_ediv (valZ a.1) (valZ a.2)
  rw [hq] at h2
  have h3 := Int.emod_nonneg (valZ a.1) (show valZ a.2 ≠ 0 by omega)
  simp at h2
  exact ⟨by omega, h2⟩
theorem cmp_c2 {a : R} (h : okR a = true) (h1 : cmpS (showI (valZ a.1 / valZ a.2)) [48] = 0) (h2 : showI (valZ a.1 % valZ a.2) = [48]) : (0 : Int) = sgnI (valZ a.1) := by
  obtain ⟨_, h4⟩ := cmp_q0 h h1
  rw [rem_zero h, h4] at h2
  unfold sgnI; rw [cmpI_eq h2]
theorem cmp_c3 {a : R} (h : okR a = true) (h1 : cmpS (showI (valZ a.1 / valZ a.2)) [48] = 0) (h2 : ¬ showI (valZ a.1 % valZ a.2) = [48]) : (1 : Int) = sgnI (valZ a.1) := by
  obtain ⟨h3, h4⟩ := cmp_q0 h h1
  rw [rem_zero h, h4] at h2
  unfold sgnI; rw [cmpI_gt om]
theorem cmpS_bd (a b : List UInt8) : -1 ≤ cmpS a b ∧ cmpS a b ≤ 1 := by
  unfold cmpS cmpI
  split
  · split
    · omega
    · split <;> omega
  · omega
set_option maxRecDepth 100000 in
theorem rCmp_ok (x1 x2 : List UInt8) (w : World) (ht : Tb w) (h : okR (x1, x2) = true) :
    Calls Tryz.prog 49 #[.agg #[S (x1), S (x2)], .agg #[S ([48]), S ([49])]] w (Ret w fun v w' => v = .int .i64 (sgnI (valZ x1))) := by
 have hd1 := div_R h;refine f_in Tryz.func49 rfl ?_;refine go ?_;refine bx (fun ah ar aa => ?_);have ht := Tb.ext ar.2 ht;have ab := ar.2;refine bx (fun aw aq ae => ?_);have ht := Tb.ext aq.2 ht;have aa := be aq.2 aa;have ab := xt ab aq.2;refine go ?_;refine cl en82 (rValid_ok x1 x2 _ ht) ?_;rintro ax ay aj rfl;have ht := Tb.ext aj.2 ht;have aa := be aj.2 aa;have ae := be aj.2 ae;have ab := xt ab aj.2;refine go ?_;refine cl en82 (rValid_ok ([48]) ([49]) _ ht) ?_;rintro az a7 ak rfl;have ht := Tb.ext ak.2 ht;have aa := be ak.2 aa;have ae := be ak.2 ae;have ab := xt ab ak.2;refine go ?_;refine cl en83 (iDiv_ok x1 x2 _ ht) ?_;rintro au a8 am hdv;have ht := Tb.ext am.2 ht;have ae := be am.2 ae;have ab := xt ab am.2;rw [hd1] at hdv;have hdv : au = .tuple #[S (showI (valZ x1 / valZ x2)), S (showI (valZ x1 % valZ x2)), .int .i64 0] := hdv;subst hdv;refine go ?_;refine cl en83 (iDiv_ok [48] [49] _ ht) ?_;rintro av bc ao hdw;have ab := xt ab ao.2;rw [divI_zero] at hdw;have hdw : av = .tuple #[S [48], S [48], .int .i64 0] := hdw;subst hdw;refine go ?_;refine cl en84 (iCmp_ok (showI (valZ x1 / valZ x2)) ([48]) _) ?_;rintro bf bg ap rfl;have ab := xt ab ap.2;have hcb := cmpS_bd (showI (valZ x1 / valZ x2)) [48];refine go ?_;by_cases ai : (cmpS (showI (valZ x1 / valZ x2)) ([48])) = 0;refine go ?_;by_cases ag : (showI (valZ x1 % valZ x2)) = ([48]);refine go ?_;refine eqs (b := [48]) ?_;refine go ?_;refine eqs (a := [48]) (b := [48]) ?_
 refine go ?_;exact f_ret1 (t := 4) (v := .int .i64 (0)) rfl ab (congrArg (Value.int .i64) (cmp_c2 (a := (x1, x2)) h ai ag)) rfl;refine go ?_;refine eqs (b := [48]) ?_;refine go ?_;refine eqs (b := [48]) ?_;refine go ?_;refine eqs (a := [48]) (b := [48]) ?_;refine go ?_;exact f_ret1 (t := 4) (v := .int .i64 (1)) rfl ab (congrArg (Value.int .i64) (cmp_c3 (a := (x1, x2)) h ai ag)) rfl;refine go ?_;refine l_op (k_mul (a := 1) (b := cmpS (showI (valZ x1 / valZ x2)) ([48])) (c := 1 * (cmpS (showI (valZ x1 / valZ x2)) ([48]))) rfl rfl (by unfold In64; omega) rfl ?_);refine go ?_;exact f_ret1 (t := 4) (v := .int .i64 (1 * (cmpS (showI (valZ x1 / valZ x2)) ([48])))) rfl ab (congrArg (Value.int .i64) ((Int.one_mul _).trans (cmp_c1 (a := (x1, x2)) h ai))) rfl
end Go.Proofs.YtdmhligiipjchaaGreatDoor
