/- Part of the proof that all functions of the layer agree with the reference implementation. -/
import Derived.Test.YtepcnphmfbbhiaaGreatDoorRef5
import Derived.Test.YtepcnphmfbbhiaaGreatDoorEngRToEngJ
import Derived.Test.YtepcnphmfbbhiaaGreatDoorEngH
set_option linter.all false
set_option linter.all false
namespace Go.Proofs.YtepcnphmfbbhiaaGreatDoor
set_option maxRecDepth 100000
open Go Go.Eng Go.RowKit
attribute [local irreducible] wpListIn Code.wpIn Oper.wpIn Exit.then Exit.inBlock Exit.noGoto
set_option maxHeartbeats 40000000
theorem sgn_ex (n : Int) : ∃ ng x, n = sgn ng x ∧ (ng = true → 0 < x) ∧ x = n.natAbs := by
  by_cases h : n < 0
  · exact ⟨true, n.natAbs, by simp [sgn]; omega, fun _ => by omega, rfl⟩
  · exact ⟨false, n.natAbs, by simp [sgn]; omega, by simp, rfl⟩
theorem fi_fin {ng : Bool} {x : Nat} (h : ng = true → 0 < x) : txtR (decide (sgn ng x < 0)) x = showI (sgn ng x) := by
  rw [← txtR_show]
  congr 1
  cases ng with
  | false =>
    have : decide (sgn false x < 0) = false := decide_eq_false (by show ¬ (x : Int) < 0; omega)
    rw [this]
  | true =>
    have := h rfl
    have : decide (sgn true x < 0) = true := decide_eq_true (by show -(x : Int) < 0; omega)
    rw [this]
theorem sgn_zero {ng : Bool} {x : Nat} : sgn ng x = 0 ↔ x = 0 := by cases ng <;> simp [sgn] <;> omega
theorem sgn_bd {ng : Bool} {x : Nat} : -(x : Int) ≤ sgn ng x ∧ sgn ng x ≤ (x : Int) := by cases ng <;> simp [sgn] <;> omega
theorem sgn_d1 {ng : Bool} {d : Nat} (h : ng = true ∧ 0 < d) : sgn ng d < 0 ∧ -sgn ng d = (d : Int) := by rw [h.1]; simp [sgn]; omega
theorem sgn_d2 {ng : Bool} {d : Nat} (h : ¬ (ng = true ∧ 0 < d)) : sgn ng d = (d : Int) := by cases ng <;> simp_all [sgn]
theorem toB_step {x : Nat} (h : ¬ x = 0) : toB 10 x = x % 10 :: toB 10 (x / 10) := toB_pos 10 x om om
def pickI (c n : Int) : Int := (if c < 0 then -(c + 1) else c) % n
theorem pick_bd (c n : Int) (h : 0 < n) : 0 ≤ pickI c n ∧ pickI c n < n := ⟨Int.emod_nonneg _ om, Int.emod_lt_of_pos _ h⟩
theorem pick_neg {c n : Int} (h : c < 0) : -(c + 1) % n = pickI c n := by unfold pickI; rw [if_pos h]
theorem pick_pos {c n : Int} (h : ¬ c < 0) : c % n = pickI c n := by unfold pickI; rw [if_neg h]
theorem len_small {n : Int} (h : -1000000 ≤ n ∧ n ≤ 1000000) : (showI n).length ≤ 1000000 := by
  have : fits n = true := by
    unfold fits; rw [decide_eq_true_eq]
    have h7 : (10 : Nat) ^ 7 ≤ 10 ^ 200 := Nat.pow_le_pow_right om om
    omega
  have := len_showI this; omega
theorem fromInt_ok0 {ng : Bool} {x0 : Nat} {w : World} (hng : ng = true → 0 < x0) (hx0 : x0 ≤ 1000000) :
    Calls Tryz.prog 78 #[.int .i64 (sgn ng x0)] w (Ret w fun v w' => v = S (showI (sgn ng x0))) := by
 have hl7 : (toB 10 x0).length ≤ 7 := (length_toB_le_iff 10 om x0 7).2 om;refine f_in Tryz.func78 rfl ?_;refine go ?_;have own0 : World.ownsRow w w.heap.size 3 1 (.slice none 0 0) 0 (ints []) := own_nil;have fm := Ext.refl w;refine c_lp [(3, 5), (9, 22)] (fun kk e W => ∃ x : Nat, ∃ ds : List Nat, ∃ vv : Value, (x = kk) ∧ (e 4 = .int .i64 (sgn ng x)) ∧ (e 3 = vv) ∧ (toB 10 x0 = ds ++ toB 10 x) ∧ (x ≤ 1000000) ∧ (Ext w W) ∧ (W.ownsRow w.heap.size 3 1 vv ds.length (ints ds))) ((x0)) ⟨x0, [], .slice none 0 0, rfl, rfl, rfl, rfl, hx0, fm, own0⟩ ?_;rintro fv fw fx ⟨x, ds, vv, rfl, fc, fd, q1, q2, e8, ho⟩;have fy := bz e8;by_cases hx : x = 0;rw [hx, toB_zero, List.append_nil] at q1;obtain ⟨Ao, co, rfl, hdg⟩ := dg_own ho q1.symm;have uhdg := hdg.row.hi;have hln : ds.length ≤ 7 := by rw [← q1]; exact hl7
 have zq1q := show sgn ng x = 0 from sgn_zero.2 hx;refine go ?_;refine clb en97 (hc := r3text_ok hdg om (decide ((sgn ng x0) < 0))) (hk := ?_);rintro f6 f7 fh rfl;have e8 := xt e8 fh.2;refine go ?_;exact f_ret1 (t := 2) (v := S (txtR (decide ((sgn ng x0) < 0)) x0)) rfl e8 (by rw [fi_fin hng]) rfl;by_cases hd : ng = true ∧ 0 < x % 10;rw [toB_step hx] at q1;have hlq := congrArg List.length q1;rw [List.length_append, List.length_cons] at hlq;have zq2q := show ¬ sgn ng x = 0 from fun h => hx (sgn_zero.1 h);refine go ?_;refine l_op (k_remT (a := sgn ng x) (b := 10) (c := sgn ng (x % 10)) rfl rfl dc (by rw [tmod_sgn]) ?_);have zq3q := (sgn_d1 hd).1;refine go ?_;refine l_op (k_neg (a := sgn ng (x % 10)) rfl (by have := @sgn_bd ng (x % 10); unfold In64; omega) ?_);rw [(sgn_d1 hd).2];refine go ?_;refine l_op (k_move (v := vv) fd ?_);refine go ?_;refine BS (fun f8 fe f9 fo => ?_);have gc := own_ne_new ho;have ho := own_ext fe ho;have e8 := xt e8 fe;have gd := bz fe;refine AP ho (Rw.of_own fo) (fun fi gg fp fj gh => ?_);have e8 := low_app ho om om e8 fj;have gi := fj.size;refine l_op (k_assign (v := fi) rfl ?_);refine go ?_;refine l_op (k_quoT (a := sgn ng x) (b := 10) (c := sgn ng (x / 10)) rfl rfl dc (tdiv_sgn _ _) (by have := @sgn_bd ng (x / 10); unfold In64; omega) ?_);refine go ?_;exact lend ⟨x / 10, ds ++ [x % 10], fi, rfl, rfl, rfl, (by rw [List.append_assoc]; exact q1), om, e8, (own_cast fp (by simp) (by rw [ints_snoc]))⟩
 rw [toB_step hx] at q1;have hlq := congrArg List.length q1;rw [List.length_append, List.length_cons] at hlq;have zq4q := show ¬ sgn ng x = 0 from fun h => hx (sgn_zero.1 h);refine go ?_;refine l_op (k_remT (a := sgn ng x) (b := 10) (c := ((x % 10 : Nat) : Int)) rfl rfl dc (by rw [tmod_sgn]; exact sgn_d2 hd) ?_);refine go ?_;refine l_op (k_move (v := vv) fd ?_);refine go ?_;refine BS (fun gj fg gk fq => ?_);have gl := own_ne_new ho;have ho := own_ext fg ho;have e8 := xt e8 fg;have gm := bz fg;refine AP ho (Rw.of_own fq) (fun fk gn fu fl gp => ?_);have e8 := low_app ho om om e8 fl;have gq := fl.size;refine l_op (k_assign (v := fk) rfl ?_);refine go ?_;refine l_op (k_quoT (a := sgn ng x) (b := 10) (c := sgn ng (x / 10)) rfl rfl dc (tdiv_sgn _ _) (by have := @sgn_bd ng (x / 10); unfold In64; omega) ?_);refine go ?_;exact lend ⟨x / 10, ds ++ [x % 10], fk, rfl, rfl, rfl, (by rw [List.append_assoc]; exact q1), om, e8, (own_cast fu (by simp) (by rw [ints_snoc]))⟩
theorem fromInt_ok (n : Int) (w : World) (h : -1000000 ≤ n ∧ n ≤ 1000000) : Calls Tryz.prog 78 #[.int .i64 n] w (Ret w fun v _ => v = S (showI n)) := by
  obtain ⟨ng, x, rfl, h1, h2⟩ := sgn_ex n
  exact fromInt_ok0 h1 (by have := natAbs_sgn ng x; omega)
theorem pick13_ok (c m : Int) (w : World) (hc : In64 c) (hm : 0 < m) :
    Calls Tryz.prog 35 #[.int .i64 (c), .int .i64 (m)] w (Ret w fun v w' => v = .int .i64 (pickI c m)) := by
 unfold In64 at hc;refine f_in Tryz.func35 rfl ?_;refine go ?_;by_cases e8 : c < 0;refine go ?_;refine adi ?_;refine l_op (k_neg (a := c + 1) rfl (by unfold In64; omega) ?_);refine go ?_;refine l_op (k_rem (a := -(c + 1)) (b := m) (c := pickI c m) rfl rfl om om (pick_neg e8) ?_);refine go ?_;exact f_ret1 (t := 4) (v := .int .i64 (pickI c m)) rfl (Ext.refl _) rfl rfl;refine go ?_;refine l_op (k_rem (a := c) (b := m) (c := pickI c m) rfl rfl om om (pick_pos e8) ?_);refine go ?_;exact f_ret1 (t := 4) (v := .int .i64 (pickI c m)) rfl (Ext.refl _) rfl rfl
theorem of_ok (n m : Int) (w : World) (hn : -1000000 ≤ n ∧ n ≤ 1000000) (hm : -1000000 ≤ m ∧ m ≤ 1000000) :
    Calls Tryz.prog 36 #[.int .i64 (n), .int .i64 (m)] w (Ret w fun v w' => v = resR (mk4 (showI n) (showI m))) := by
 refine f_in Tryz.func36 rfl ?_;refine go ?_;refine al inf36 (fun fk fi fc => ?_);have e8 := fi.2;refine go ?_;refine clb en73 (hc := fromInt_ok n _ om) (hk := ?_);rintro fl fm fd rfl;have fc := be fd.2 fc;have e8 := xt e8 fd.2;refine go ?_;refine clb en73 (hc := fromInt_ok m _ om) (hk := ?_);rintro fo fp fe rfl;have fc := be fe.2 fc;have e8 := xt e8 fe.2;refine clb en72 (hc := r4Make_ok (showI n) (showI m) _ (len_small om) (len_small om)) (hk := ?_);rintro fq fu fg rfl;have fc := be fg.2 fc;have e8 := xt e8 fg.2;refine go ?_;refine SA fc (fun fv fh fj => ?_);have e8 := plw fh e8;have fw := psz fh;refine go ?_;refine f_out (v := .tuple #[.agg #[S (rN (mk4 (showI n) (showI m))), S (rD (mk4 (showI n) (showI m)))], .int .i64 (rER (mk4 (showI n) (showI m)))]) (res2 (r1 := .cell 4 41) (r2 := .tmp 5) rfl ?_ ?_) e8 rfl;refine res_cellA (t := 4) (cs := [S (rN (mk4 (showI n) (showI m))), S (rD (mk4 (showI n) (showI m)))]) (b := w.heap.size) (o := 0) U36 rfl sz36 ?_ ?_;exact rfl;exact Blk.cells fj (i := 0) rfl;exact res_tmp (t := 5) (by exact rfl) _
end Go.Proofs.YtepcnphmfbbhiaaGreatDoor
