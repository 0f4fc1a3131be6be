/- Part of the proof of a statement about the special functions. -/
import Derived.Test.YtjijfnggomhpiaaGreatDoorSp4ToRatQ
import Derived.Test.YtjijfnggomhpiaaGreatDoorEngGToInt1
import Derived.Test.YtjijfnggomhpiaaGreatDoorInt11ToRat1
set_option linter.all false
namespace Go.Proofs.YtjijfnggomhpiaaGreatDoor
open Go Go.Eng Go.RowKit
attribute [local irreducible] wpListIn Code.wpIn Oper.wpIn Exit.then Exit.inBlock Exit.noGoto
set_option maxHeartbeats 40000000
theorem q21 : (([50], [49]) : R) = qR 2 1 := by decide +kernel
theorem q11 : (([49], [49]) : R) = qR 1 1 := by decide +kernel
theorem q01 : (([48], [49]) : R) = qR 0 1 := by decide +kernel
theorem q12 : (([49], [50]) : R) = qR 1 2 := by decide +kernel
section
variable {a b c d : Int} {l m l' m' : List UInt8} {w : World}
theorem qCmpL (e1 : (l, m) = qR a b) (e2 : (l', m') = qR c d) (h1 : Q9 a b) (h2 : Q9 c d) (ht : Tb w) : Calls Tryz.prog 10 #[.agg #[S l, S m], .agg #[S l', S m']] w (Ret w fun v _ => v = .int .i64 (cmpI (a * d) (c * b))) := by
  rw [show l = (qR a b).1 from congrArg Prod.fst e1, show m = (qR a b).2 from congrArg Prod.snd e1, show l' = (qR c d).1 from congrArg Prod.fst e2, show m' = (qR c d).2 from congrArg Prod.snd e2]
  exact rCmpQ_ok h1.2.1 h2.2.1 h1.fz.1 h1.fz.2 h2.fz.1 h2.fz.2 ht
theorem qAddL (e1 : (l, m) = qR a b) (e2 : (l', m') = qR c d) (h1 : Q9 a b) (h2 : Q9 c d) (ht : Tb w) : Calls Tryz.prog 23 #[.agg #[S l, S m], .agg #[S l', S m']] w (Ret w fun v _ => v = Qv (a * d + c * b) (b * d)) := by
  rw [show l = (qR a b).1 from congrArg Prod.fst e1, show m = (qR a b).2 from congrArg Prod.snd e1, show l' = (qR c d).1 from congrArg Prod.fst e2, show m' = (qR c d).2 from congrArg Prod.snd e2]
  exact qAdd_ok h1 h2 ht
theorem qSubL (e1 : (l, m) = qR a b) (e2 : (l', m') = qR c d) (h1 : Q9 a b) (h2 : Q9 c d) (ht : Tb w) : Calls Tryz.prog 56 #[.agg #[S l, S m], .agg #[S l', S m']] w (Ret w fun v _ => v = Qv (a * d - c * b) (b * d)) := by
  rw [show l = (qR a b).1 from congrArg Prod.fst e1, show m = (qR a b).2 from congrArg Prod.snd e1, show l' = (qR c d).1 from congrArg Prod.fst e2, show m' = (qR c d).2 from congrArg Prod.snd e2]
  exact qSub_ok h1 h2 ht
theorem qDivL (e1 : (l, m) = qR a b) (e2 : (l', m') = qR c d) (h1 : Q9 a b) (h2 : Q9 c d) (hc : 0 < c) (ht : Tb w) : Calls Tryz.prog 14 #[.agg #[S l, S m], .agg #[S l', S m']] w (Ret w fun v _ => v = Qv (a * d) (b * c)) := by
  rw [show l = (qR a b).1 from congrArg Prod.fst e1, show m = (qR a b).2 from congrArg Prod.snd e1, show l' = (qR c d).1 from congrArg Prod.fst e2, show m' = (qR c d).2 from congrArg Prod.snd e2]
  exact qDiv_ok h1 h2 hc ht
theorem Qv_congr (hb : 0 < b) (hd : 0 < d) (h : a * d = c * b) : Qv a b = Qv c d := by unfold Qv; rw [qR_congr hb hd h]
end
theorem q9n {n d : Nat} (hn : n < 10 ^ 90) (h0 : 0 < d) (hd : d < 10 ^ 90) : Q9 (n : Int) (d : Int) := ⟨by simpa using hn, by omega, by omega⟩
theorem q9l1 : Q9 1 1 := ⟨by decide, by decide, by decide⟩
theorem q9l2 : Q9 2 1 := ⟨by decide, by decide, by decide⟩
theorem q9l0 : Q9 0 1 := ⟨by decide, by decide, by decide⟩
theorem red_nat {a b : Nat} (hb : 0 < b) : redN (a : Int) (b : Int) = ((a / Nat.gcd a b : Nat) : Int) ∧ redD (a : Int) (b : Int) = ((b / Nat.gcd a b : Nat) : Int) := by
  unfold redN redD
  rw [if_neg om, if_neg om]
  exact ⟨rfl, rfl⟩
theorem spOfQ_ok {sO pl a b : Nat} {w : World} (hS : Sc sO) (ha : a < 10 ^ 90) (hb : b < 10 ^ 90) (h0 : 0 < b) (ht : Tb w) :
    Calls Tryz.prog 50 #[.agg #[.int .i64 pl, S (nS sO)], .agg #[S (qR (a : Int) (b : Int)).1, S (qR (a : Int) (b : Int)).2]] w (Ret w fun v _ => v = .agg #[S (nS (ofP sO a b).1), S (nS (ofP sO a b).2)]) := by
  have hg : 0 < Nat.gcd a b := Nat.gcd_pos_of_pos_right _ h0
  have e1 : a / Nat.gcd a b * Nat.gcd a b = a := Nat.div_mul_cancel (Nat.gcd_dvd_left _ _)
  have e2 : b / Nat.gcd a b * Nat.gcd a b = b := Nat.div_mul_cancel (Nat.gcd_dvd_right _ _)
  have h1 := ofP_mul (S := sO) (n := a / Nat.gcd a b) (d := b / Nat.gcd a b) hg
  rw [e1, e2] at h1
  have hle : a / Nat.gcd a b < 10 ^ 90 := Nat.lt_of_le_of_lt (Nat.div_le_self _ _) ha
  have hle2 : b / Nat.gcd a b < 10 ^ 90 := Nat.lt_of_le_of_lt (Nat.div_le_self _ _) hb
  have hp : 0 < b / Nat.gcd a b := Nat.div_pos (Nat.le_of_dvd h0 (Nat.gcd_dvd_right _ _)) hg
  rw [h1]
  unfold qR
  rw [(red_nat h0).1, (red_nat h0).2]
  exact spOf_ok hS (fi_pow hle dc) (fi_pow hle2 dc) hp (fi_mul hle hS.lt dc) ht
def lgF : Nat → Nat → Nat → Nat → Option (Nat × Nat)
  | 0, _, _, _ => none
  | f + 1, n, d, k => if 2 * d < n then lgF f n (2 * d) (k + 1) else some (d, k)
def logP (S n d : Nat) : Option N2 := if n < 10 ^ 80 ∧ d < 10 ^ 80 ∧ 0 < d ∧ d ≤ n then (lgF 100 n d 0).bind fun p => (artP S (ofP S 1 3)).bind fun h => (artP S (ofP S (n - p.1) (n + p.1))).map fun a => plP a (byP h p.2 1) else none
theorem log_inv {S n d : Nat} {r : N2} (h : logP S n d = some r) : n < 10 ^ 80 ∧ d < 10 ^ 80 ∧ 0 < d ∧ d ≤ n ∧ ∃ p x a, lgF 100 n d 0 = some p ∧ artP S (ofP S 1 3) = some x ∧ artP S (ofP S (n - p.1) (n + p.1)) = some a ∧ r = plP a (byP x p.2 1) := by
  unfold logP at h
  split at h
  · rename_i h1
    refine ⟨h1.1, h1.2.1, h1.2.2.1, h1.2.2.2, ?_⟩
    cases hp : lgF 100 n d 0 with
    | none => rw [hp] at h; cases h
    | some p =>
      rw [hp, Option.bind_some] at h
      cases hx : artP S (ofP S 1 3) with
      | none => rw [hx] at h; cases h
      | some x =>
        rw [hx, Option.bind_some] at h
        cases ha : artP S (ofP S (n - p.1) (n + p.1)) with
        | none => rw [ha] at h; cases h
        | some a => rw [ha] at h; cases h; exact ⟨p, x, a, rfl, rfl, ha, rfl⟩
  · cases h
theorem lg_t {f n d k : Nat} {p : Nat × Nat} (h : lgF f n d k = some p) (hl : 2 * d < n) : ∃ g, f = g + 1 ∧ lgF g n (2 * d) (k + 1) = some p := by
  cases f with
  | zero => cases h
  | succ g => unfold lgF at h; rw [if_pos hl] at h; exact ⟨g, rfl, h⟩
theorem lg_f {f n d k : Nat} {p : Nat × Nat} (h : lgF f n d k = some p) (hl : ¬ 2 * d < n) : p = (d, k) := by
  cases f with
  | zero => cases h
  | succ g => unfold lgF at h; rw [if_neg hl] at h; cases h; rfl
theorem art_bd {S : Nat} {t r : N2} (h : artP S t = some r) : Bk 101 r := by
  obtain ⟨_, _, s, hs, rfl⟩ := art_inv h
  obtain ⟨m, hR, hr⟩ := sumP_inv hs
  have h1 : Bk 100 s := hr ▸ hR.res
  exact byP_bd (m := 1) dc h1 dc
theorem log_gt {n e : Nat} (h : 2 * e < n) : 0 < cmpI ((n : Int) * 1) (2 * (e : Int)) := by rw [cmpI_gt om]; decide
theorem log_le {n e : Nat} (h : ¬ 2 * e < n) : ¬ 0 < cmpI ((n : Int) * 1) (2 * (e : Int)) := by have := (cmpI_nonpos (x := (n : Int) * 1) (y := 2 * (e : Int))).2 om; omega
theorem half_q {n e : Nat} : Qv ((n : Int) * 1) ((e : Int) * 2) = Qv (n : Int) ((2 * e : Nat) : Int) := by rw [Int.mul_one, show (e : Int) * 2 = ((2 * e : Nat) : Int) by omega]
theorem sub_q {n e : Nat} (h : e ≤ n) : Qv ((n : Int) * 1 - 1 * (e : Int)) ((e : Int) * 1) = Qv ((n - e : Nat) : Int) (e : Int) := by rw [show (n : Int) * 1 - 1 * (e : Int) = ((n - e : Nat) : Int) by omega, Int.mul_one]
theorem add_q {n e : Nat} : Qv ((n : Int) * 1 + 1 * (e : Int)) ((e : Int) * 1) = Qv ((n + e : Nat) : Int) (e : Int) := by rw [show (n : Int) * 1 + 1 * (e : Int) = ((n + e : Nat) : Int) by omega, Int.mul_one]
theorem div_q {n e : Nat} (h0 : 0 < e) : Qv (((n - e : Nat) : Int) * (e : Int)) ((e : Int) * ((n + e : Nat) : Int)) = Qv ((n - e : Nat) : Int) ((n + e : Nat) : Int) :=
  Qv_congr (Int.mul_pos om om) om (by rw [Int.mul_assoc])
theorem lit3 : ([51] : List UInt8) = nS 3 := by decide +kernel
set_option maxRecDepth 100000 in
theorem log_ok {sO pl n d : Nat} {r : N2} {w : World} (hS : Sc sO) (hh : logP sO n d = some r) (ht : Tb w) :
    Calls Tryz.prog 67 #[.agg #[.int .i64 pl, S (nS sO)], .agg #[S ((qR (((n : Nat)) : Int) (((d : Nat)) : Int)).1), S ((qR (((n : Nat)) : Int) (((d : Nat)) : Int)).2)]] w (Ret w fun v w' => v = .agg #[S (nS r.1), S (nS r.2)]) := by
 obtain ⟨hn, hd, hd0, hdn, p, x, a, hp, hx, ha, rfl⟩ := log_inv hh;have hxb := art_bd hx;have hab := art_bd ha;refine f_in Tryz.func67 rfl ?_;refine go ?_;refine bx (fun apq aqi r8 => ?_);have aos := aqi.2;refine bx (fun ap6 aqa aot => ?_);have r8 := be aqa.2 r8;have aos := xt aos aqa.2;refine al inf1056 (fun ap2 ap7 sc => ?_);have r8 := be ap7.2 r8;have aot := be ap7.2 aot;have aos := xt aos ap7.2;refine go ?_;refine al inf36 (fun ap4 ap5 ap8 => ?_);have r8 := be ap5.2 r8;have aot := be ap5.2 aot;have sc := be ap5.2 sc;have aos := xt aos ap5.2;refine al inf36 (fun aqy ap3 ap9 => ?_);have r8 := be ap3.2 r8;have aot := be ap3.2 aot;have sc := be ap3.2 sc;have ap8 := be ap3.2 ap8;have aos := xt aos ap3.2;refine SA ap8 (fun aqz apu aol => ?_);have r8 := pb apu r8;have aot := pb apu aot;have sc := pb apu sc;have ap9 := pb apu ap9;have aos := plw apu aos;have aq0 := psz apu;refine SA ap9 (fun aqj apv aom => ?_);have r8 := pb apv r8;have aot := pb apv aot;have sc := pb apv sc;have aol := pb apv aol;have aos := plw apv aos;have aq1 := psz apv;refine go ?_;refine c_lp [(7, 7), (17, 28)] (fun kk e W => ∃ f : Nat, ∃ z : Nat, ∃ k : Nat, (f = kk) ∧ (e 7 = .int .i64 k) ∧ (lgF f n z k = some p) ∧ (0 < z) ∧ (z ≤ n) ∧ (z < 10 ^ 81) ∧ (k + f ≤ 100) ∧ (aqj.heap.size ≤ W.heap.size) ∧ (Ext w W) ∧ (Blk W (w.heap.size) 70 #[.int .i64 pl, S (nS sO)]) ∧ (Blk W (ap6.heap.size) 72 #[S ([]), S ([])]) ∧ (Blk W (ap2.heap.size) 25 #[S ([50]), S ([49])]) ∧ (Blk W (ap4.heap.size) 25 #[S ([49]), S ([49])]) ∧ (Blk W (apq.heap.size) 25 #[S ((qR (((n : Nat)) : Int) (((z : Nat)) : Int)).1), S ((qR (((n : Nat)) : Int) (((z : Nat)) : Int)).2)])) ((100)) ⟨100, d, 0, rfl, rfl, hp, hd0, hdn, om, om, (Nat.le_refl _), aos, r8, sc, aol, aom, aot⟩ ?_
 rintro aq2 aq3 aq4 ⟨f, z, k, rfl, aqb, hf, he0, hen, heb, hkf, aq5, aoq, r8, sc, aol, aom, hbx⟩;have aq6 := bz aoq;by_cases hl : 2 * z < n;obtain ⟨g, rfl, hh2⟩ := lg_t hf hl;refine go ?_;refine clb en49 (hc := qCmpL rfl q21 (q9n om om om) q9l2 (ht.ext aoq)) (hk := ?_);rintro aq7 aq8 apw rfl;have r8 := be apw.2 r8;have sc := be apw.2 sc;have aol := be apw.2 aol;have aom := be apw.2 aom;have hbx := be apw.2 hbx;have aoq := xt aoq apw.2;have zq1q := log_gt hl;refine go ?_;refine clb en218 (hc := cEq (Y := .tuple #[.agg #[S ((qR (((n : Nat)) : Int) (((2 * z : Nat)) : Int)).1), S ((qR (((n : Nat)) : Int) (((2 * z : Nat)) : Int)).2)], .int .i64 (0)]) (qDivL rfl q21 (q9n om om om) q9l2 dc (ht.ext aoq)) half_q) (hk := ?_);rintro aq9 ara apx rfl;have r8 := be apx.2 r8;have sc := be apx.2 sc;have aol := be apx.2 aol;have aom := be apx.2 aom;have hbx := be apx.2 hbx;have aoq := xt aoq apx.2;refine go ?_;refine SA hbx (fun arb apy aqk => ?_);have r8 := pb apy r8;have sc := pb apy sc;have aol := pb apy aol;have aom := pb apy aom;have aoq := plw apy aoq;have arc := psz apy;refine go ?_;refine l_op (k_add (a := (k : Int)) (b := 1) (c := ((k + 1 : Nat) : Int)) rfl rfl (by unfold In64; omega) om ?_);refine go ?_;exact lend ⟨g, 2 * z, k + 1, rfl, rfl, hh2, om, om, om, om, om, aoq, r8, sc, aol, aom, aqk⟩
 have hpe := lg_f hf hl;subst hpe;have hby := byP_bd (n := k) (d := 1) (m := 9) dc hxb om;refine go ?_;refine clb en49 (hc := qCmpL rfl q21 (q9n om om om) q9l2 (ht.ext aoq)) (hk := ?_);rintro ard arf apz rfl;have r8 := be apz.2 r8;have sc := be apz.2 sc;have aol := be apz.2 aol;have aom := be apz.2 aom;have hbx := be apz.2 hbx;have aoq := xt aoq apz.2;have zq2q := log_le hl;refine go ?_;refine clb en220 (hc := cEq (Y := .tuple #[.agg #[S ((qR (((n - z : Nat)) : Int) (((z : Nat)) : Int)).1), S ((qR (((n - z : Nat)) : Int) (((z : Nat)) : Int)).2)], .int .i64 (0)]) (qSubL rfl q11 (q9n om om om) q9l1 (ht.ext aoq)) (sub_q hen)) (hk := ?_);rintro arh aqc ap0 rfl;have r8 := be ap0.2 r8;have sc := be ap0.2 sc;have aol := be ap0.2 aol;have aom := be ap0.2 aom;have hbx := be ap0.2 hbx;have aoq := xt aoq ap0.2;refine go ?_;refine al inf36 (fun ari ap1 aql => ?_);have r8 := be ap1.2 r8;have sc := be ap1.2 sc;have aol := be ap1.2 aol;have aom := be ap1.2 aom;have hbx := be ap1.2 hbx;have aoq := xt aoq ap1.2;refine SA aql (fun arj apr aon => ?_);have r8 := pb apr r8;have sc := pb apr sc;have aol := pb apr aol;have aom := pb apr aom;have hbx := pb apr hbx;have aoq := plw apr aoq;have ark := psz apr;refine go ?_;refine clb en217 (hc := cEq (Y := .tuple #[.agg #[S ((qR (((n + z : Nat)) : Int) (((z : Nat)) : Int)).1), S ((qR (((n + z : Nat)) : Int) (((z : Nat)) : Int)).2)], .int .i64 (0)]) (qAddL rfl q11 (q9n om om om) q9l1 (ht.ext aoq)) add_q) (hk := ?_)
 rintro arl aqd aps rfl;have r8 := be aps.2 r8;have sc := be aps.2 sc;have aol := be aps.2 aol;have aom := be aps.2 aom;have hbx := be aps.2 hbx;have aon := be aps.2 aon;have aoq := xt aoq aps.2;refine go ?_;refine al inf36 (fun arm apt aqm => ?_);have r8 := be apt.2 r8;have sc := be apt.2 sc;have aol := be apt.2 aol;have aom := be apt.2 aom;have hbx := be apt.2 hbx;have aon := be apt.2 aon;have aoq := xt aoq apt.2;refine SA aqm (fun arn apj aoo => ?_);have r8 := pb apj r8;have sc := pb apj sc;have aol := pb apj aol;have aom := pb apj aom;have hbx := pb apj hbx;have aon := pb apj aon;have aoq := plw apj aoq;have aro := psz apj;refine go ?_;refine clb en218 (hc := cEq (Y := .tuple #[.agg #[S ((qR (((n - z : Nat)) : Int) (((n + z : Nat)) : Int)).1), S ((qR (((n - z : Nat)) : Int) (((n + z : Nat)) : Int)).2)], .int .i64 (0)]) (qDivL rfl rfl (q9n om om om) (q9n om om om) om (ht.ext aoq)) (div_q he0)) (hk := ?_);rintro arp aqe apk rfl;have r8 := be apk.2 r8;have sc := be apk.2 sc;have aol := be apk.2 aol;have aom := be apk.2 aom;have hbx := be apk.2 hbx;have aon := be apk.2 aon;have aoo := be apk.2 aoo;have aoq := xt aoq apk.2;refine go ?_;refine al inf36 (fun arq apl aqn => ?_);have r8 := be apl.2 r8
 have sc := be apl.2 sc;have aol := be apl.2 aol;have aom := be apl.2 aom;have hbx := be apl.2 hbx;have aon := be apl.2 aon;have aoo := be apl.2 aoo;have aoq := xt aoq apl.2;refine SA aqn (fun aqo ao4 aop => ?_);have r8 := pb ao4 r8;have sc := pb ao4 sc;have aol := pb ao4 aol;have aom := pb ao4 aom;have hbx := pb ao4 hbx;have aon := pb ao4 aon;have aoo := pb ao4 aoo;have aoq := plw ao4 aoq;have arr := psz ao4;refine go ?_;refine c_an 6 ?_;refine sf ?_;refine sf_ae (V := .agg #[S (nS ((ofP sO 1 3).1)), S (nS ((ofP sO 1 3).2))]) (fun ar1 ar2 ao5 ar3 => ?_) ?_;refine clb en1032 (hc := spOfL_ok (n := 1) (d := 3) lit1 lit3 hS fi1 (fi_pow (k := 1) dc dc) dc (by rw [Nat.one_mul]; exact hS.fi) (ht.ext (xt aoq ao5))) (hk := ?_);rintro ar4 ar5 ao6 rfl;have aqp := ao6.2;refine go ?_;exact fs ⟨aqp, rfl⟩;refine sf_ae (V := .agg #[S (nS x.1), S (nS x.2)]) (fun ar6 ar7 ao7 ar8 => ?_) ?_;refine cl en5117 (artanh_ok hS hx (ht.ext (xt aoq ao7))) ?_;rintro ar9 asa ao8 rfl;have aqq := ao8.2;refine go ?_;exact fs ⟨aqq, rfl⟩;refine sf_ah (fun v wz => ∃ b : Nat, v = .pointer (some ⟨b, 0, none⟩) ∧ aqo.heap.size ≤ b ∧ Blk wz b 72 #[S ([]), S ([])]) (hs := fun _ _ _ k ⟨b, e, l, h⟩ => ⟨b, e, l, h.ext k⟩) (fun asb asc ao9 asd => ?_) ?_;refine al inf1056 (fun ase apa aqr => ?_);have aqs := apa.2;refine go ?_
 exact fs ⟨aqs, ⟨_, rfl, (by have := bz ao9; omega), aqr⟩⟩;refine sf ?_;intro asf asg apb aqt;have r8 := be apb.2 r8;have sc := be apb.2 sc;have aol := be apb.2 aol;have aom := be apb.2 aom;have hbx := be apb.2 hbx;have aon := be apb.2 aon;have aoo := be apb.2 aoo;have aop := be apb.2 aop;have aoq := xt aoq apb.2;obtain ⟨aqf, aqg, ash, aqh⟩ := (aqt 5 14 rfl rfl);have asi := bt aqh;refine SA aqh (fun asj aou aor => ?_);have r8 := pb aou r8;have sc := pb aou sc;have aol := pb aou aol;have aom := pb aou aom;have hbx := pb aou hbx;have aon := pb aou aon;have aoo := pb aou aoo;have aop := pb aou aop;have aoq := plw aou aoq;have ask := psz aou;refine go ?_;refine c_an 10 ?_;refine sf ?_;refine sf_ae (V := .agg #[S (nS ((ofP sO (n - z) (n + z)).1)), S (nS ((ofP sO (n - z) (n + z)).2))]) (fun asy asz aov as0 => ?_) ?_;refine clb en1032 (hc := spOfQ_ok (a := (n - z)) (b := (n + z)) hS om om om (ht.ext (xt aoq aov))) (hk := ?_);rintro as1 as2 aow rfl;have aqu := aow.2;refine go ?_;exact fs ⟨aqu, rfl⟩;refine sf_ae (V := .agg #[S (nS a.1), S (nS a.2)]) (fun as3 as4 aox as5 => ?_) ?_;refine cl en5117 (artanh_ok hS ha (ht.ext (xt aoq aox))) ?_;rintro as6 as7 aoy rfl;have aqv := aoy.2;refine go ?_;exact fs ⟨aqv, rfl⟩;refine sf ?_;refine sf_ae (V := .agg #[S (nS ((byP x (k) 1).1)), S (nS ((byP x (k) 1).2))]) (fun ath ati aoz atj => ?_) ?_
 refine clb en1070 (hc := spBy_ok (hxb.mono dc) om dc dc (ht.ext (xt aoq aoz))) (hk := ?_);rintro atk atl ao0 rfl;have aqw := ao0.2;refine go ?_;exact fs ⟨aqw, rfl⟩;refine sf ?_;intro atm atn ao1 ato;have r8 := be ao1.2 r8;have sc := be ao1.2 sc;have aol := be ao1.2 aol;have aom := be ao1.2 aom;have hbx := be ao1.2 hbx;have aon := be ao1.2 aon;have aoo := be ao1.2 aoo;have aop := be ao1.2 aop;have aor := be ao1.2 aor;have aoq := xt aoq ao1.2;refine clb en1078 (hc := spPlus_ok (by have := hab.1; have := hby.1; unfold Fi; omega) (by have := hab.2; have := hby.2; unfold Fi; omega) (ht.ext aoq)) (hk := ?_);rintro atp atq ao2 rfl;have r8 := be ao2.2 r8;have sc := be ao2.2 sc;have aol := be ao2.2 aol;have aom := be ao2.2 aom;have hbx := be ao2.2 hbx;have aon := be ao2.2 aon;have aoo := be ao2.2 aoo;have aop := be ao2.2 aop;have aor := be ao2.2 aor;have aoq := xt aoq ao2.2;refine SA sc (fun atr ao3 aqx => ?_);have r8 := pb ao3 r8;have aol := pb ao3 aol;have aom := pb ao3 aom;have hbx := pb ao3 hbx;have aon := pb ao3 aon;have aoo := pb ao3 aoo;have aop := pb ao3 aop;have aor := pb ao3 aor;have aoq := plw ao3 aoq;have att := psz ao3;refine go ?_;refine f_out (v := .agg #[S (nS ((plP a (byP x (k) 1)).1)), S (nS ((plP a (byP x (k) 1)).2))]) (res1  rfl ?_) aoq rfl
 refine res_cellA (t := 4) (cs := [S (nS ((plP a (byP x (k) 1)).1)), S (nS ((plP a (byP x (k) 1)).2))]) (b := ap6.heap.size) (o := 0) U1056 rfl sz1056 ?_ ?_;exact rfl;exact Blk.cells aqx (i := 0) rfl
end Go.Proofs.YtjijfnggomhpiaaGreatDoor
namespace Go.Proofs.YtjijfnggomhpiaaGreatDoor
set_option maxRecDepth 100000
open Go Go.Eng Go.RowKit
theorem callsDIn_of_wpS {n : Nat} {P : Program} {f : FuncId} {fn : Func} {c : Code} {args : Array Value} {u : FrameMode} {w : World} {R : Ending → FrameMode → World → Prop}
    (hf : P.funcs[f]? = some fn) (hb : fn.body = some c)
    (h : ∀ (c₀ : Frame) (cs : List Frame), c₀.mode = u →
      c.wpS P (bodyPostS P fn c₀ cs R) { tmps := args ++ Array.replicate (fn.ntmps - args.size) undef, defers := [] } (c₀ :: cs) w) :
    CallsDIn Fence.wide n P f args u w R := by
  refine ⟨trivial, fun c₀ cs hu _ => ?_⟩
  let b : Frame := { (default : Frame) with fn := f, kind := .deferred }
  have henter : Frame.enter P f args .deferred =
      b.at { tmps := args ++ Array.replicate (fn.ntmps - args.size) undef, defers := [] } [.code c] := by
    simp [Frame.enter, Frame.at, hf, hb, b]
  obtain ⟨e, a', cs', w', hq, harr⟩ := h c₀ cs hu b [] rfl rfl
  rw [← henter] at harr
  cases e with
  | normal =>
    obtain ⟨hd, u', rfl, v, hr, hR⟩ := hq
    exact ⟨.returned v, u', w', _, hR, comesIn_wide.2 (Steps.trans harr (.one step_end)), rfl, rfl, rfl, hd, fn, hf, hr⟩
  | ret =>
    obtain ⟨hd, u', rfl, v, hr, hR⟩ := hq
    obtain ⟨todo, hs⟩ := harr
    exact ⟨.returned v, u', w', _, hR, comesIn_wide.2 hs, rfl, rfl, rfl, hd, fn, hf, hr⟩
  | panic chain =>
    obtain ⟨hd, u', rfl, hR⟩ := hq
    obtain ⟨todo, hs⟩ := harr
    exact ⟨.panicked chain, u', w', _, hR, comesIn_wide.2 hs, rfl, rfl, rfl, hd, fn, hf⟩
  | exit id => exact hq.elim
  | goto l => exact hq.elim
  | outgrown =>
    obtain ⟨u', hR⟩ := hq
    exact ⟨.outgrown, u', w', b, hR, harr.resolve_left (by simp [b]), rfl, rfl, trivial⟩
theorem dIn {n : Nat} {P : Program} {f : FuncId} {fn : Func} {c : Code} {args : List Value} {u : FrameMode} {w : World} {R : Ending → FrameMode → World → Prop}
    (hf : P.funcs[f]? = some fn) (hb : fn.body = some c)
    (h : ∀ (c₀ : Frame) (cs : List Frame), c₀.mode = u → c.wpS P (bodyPostS P fn c₀ cs R) (act (args.length + (fn.ntmps - args.length)) (ent args) []) (c₀ :: cs) w) : CallsDIn Fence.wide n P f args.toArray u w R := by
  refine callsDIn_of_wpS hf hb (fun c₀ cs hu => ?_)
  rw [act_start]
  exact h c₀ cs hu
section
variable {P : Program} {r : Option Nat} {n N : Nat} {e : Nat → Value} {ds : List Deferred} {w : World} {Q : Exit → Act → World → Prop} {K : Act → World → Prop}
variable {d ty : Nat} {pos : String} {af : Array Edge} {ats : Array TypeId} {g : Option (Nat × Bool)} {v u : Value} {x y : Operand} {t t' : TypeId}
theorem k_deferV {f : FuncId} {lb : List Value} (hx : ev N e x = .func (.func f) #[] lb.toArray) (hk : K (act N e ({ target := .fn (.func f) lb.toArray, args := #[] } :: ds)) w) :
    Oper.wpIn (Fw none) n P ⟨none, .defer { callee := .value x, args := #[], argTypes := ats }, ty, pos, af, g⟩ (act N e ds) w K Q := by
  refine ⟨fun f _ => Fw_fn none f, ?_⟩
  rw [Fw_round, Oper.semAt_none, act_eval]
  have : (execOp (ev N e) (⟨none, .defer { callee := .value x, args := #[], argTypes := ats }, ty, pos, af, g⟩ : Oper)).run P w = .ok (.defer { target := .fn (.func f) lb.toArray, args := #[] }) w := by
    simp [execOp, resolve, Deferred.ofValue, hx]
  rw [this]
  exact hk
end
section
variable {P : Program} {N i : Nat} {e : Nat → Value} {w : World} {d id ty : Nat} {pos : String} {af : Array Edge} {ats : Array TypeId} {cs : List Frame} {v : Value} {Q : Exit → Act → List Frame → World → Prop} {ops : Array Oper} {rest : List Nat} {op : Op} {dst : Option Tmp}
theorem s_reg0 (hn : List.range ops.size = 0 :: rest) (h0 : ops[0]? = some ⟨some d, .call { callee := .builtin .recover, args := #[], argTypes := ats }, ty, pos, af, none⟩) (hr : recoverD cs = none) (h : wpOpsS P ops Q rest (act N (upd e d .nilIface) []) cs w) :
    (Code.region id ops false).wpS P Q (act N e []) cs w := by
  refine wpS_region ?_
  rw [hn]
  have hx : (execOp (act N e []).eval ⟨some d, .call { callee := .builtin .recover, args := #[], argTypes := ats }, ty, pos, af, none⟩).run P w = .ok .recover w := by
    simp [execOp, resolve, invoke, builtin]
  simp only [wpOpsS, h0, Region.wanted, if_true, hx, hr]
  rw [act_put]
  exact h
theorem so_val (h0 : ops[i]? = some ⟨some d, op, ty, pos, af, none⟩) (hx : (execOp (ev N e) (⟨some d, op, ty, pos, af, none⟩ : Oper)).run P w = .ok (.value v) w) (h : wpOpsS P ops Q rest (act N (upd e d v) []) cs w) :
    wpOpsS P ops Q (i :: rest) (act N e []) cs w := by
  have hx' : (execOp (act N e []).eval (⟨some d, op, ty, pos, af, none⟩ : Oper)).run P w = .ok (.value v) w := by rw [act_eval]; exact hx
  simp only [wpOpsS, h0, Region.wanted, if_true, hx']
  show wpOpsS P ops Q rest ((act N e []).put (some d) v) cs w
  rw [act_put]
  exact h
theorem so_nil (h : Q .normal (act N e []) cs w) : wpOpsS P ops Q [] (act N e []) cs w := h
end
theorem s_reg7 {P : Program} {N : Nat} {e : Nat → Value} {w : World} {d id ty : Nat} {pos : String} {af : Array Edge} {ats : Array TypeId} {cs : List Frame} {Q : Exit → Act → List Frame → World → Prop}
    {d1 ty1 d2 ty2 d3 ty3 d4 ty4 d5 ty5 d6 ty6 : Nat} {pos1 pos2 pos3 pos4 pos5 pos6 : String} {af1 af2 af3 af4 af5 af6 : Array Edge} {op1 op2 op3 op4 op5 op6 : Op} {v1 v2 v3 v4 v5 v6 : Value}
    (hr : recoverD cs = none) (h1 : (execOp (ev N (upd e d .nilIface)) (⟨some d1, op1, ty1, pos1, af1, none⟩ : Oper)).run P w = .ok (.value v1) w) (h2 : (execOp (ev N (upd (upd e d .nilIface) d1 v1)) (⟨some d2, op2, ty2, pos2, af2, none⟩ : Oper)).run P w = .ok (.value v2) w) (h3 : (execOp (ev N (upd (upd (upd e d .nilIface) d1 v1) d2 v2)) (⟨some d3, op3, ty3, pos3, af3, none⟩ : Oper)).run P w = .ok (.value v3) w) (h4 : (execOp (ev N (upd (upd (upd (upd e d .nilIface) d1 v1) d2 v2) d3 v3)) (⟨some d4, op4, ty4, pos4, af4, none⟩ : Oper)).run P w = .ok (.value v4) w) (h5 : (execOp (ev N (upd (upd (upd (upd (upd e d .nilIface) d1 v1) d2 v2) d3 v3) d4 v4)) (⟨some d5, op5, ty5, pos5, af5, none⟩ : Oper)).run P w = .ok (.value v5) w) (h6 : (execOp (ev N (upd (upd (upd (upd (upd (upd e d .nilIface) d1 v1) d2 v2) d3 v3) d4 v4) d5 v5)) (⟨some d6, op6, ty6, pos6, af6, none⟩ : Oper)).run P w = .ok (.value v6) w) (h : Q .normal (act N (upd (upd (upd (upd (upd (upd (upd e d .nilIface) d1 v1) d2 v2) d3 v3) d4 v4) d5 v5) d6 v6) []) cs w) :
    (Code.region id #[⟨some d, .call { callee := .builtin .recover, args := #[], argTypes := ats }, ty, pos, af, none⟩, ⟨some d1, op1, ty1, pos1, af1, none⟩, ⟨some d2, op2, ty2, pos2, af2, none⟩, ⟨some d3, op3, ty3, pos3, af3, none⟩, ⟨some d4, op4, ty4, pos4, af4, none⟩, ⟨some d5, op5, ty5, pos5, af5, none⟩, ⟨some d6, op6, ty6, pos6, af6, none⟩] false).wpS P Q (act N e []) cs w :=
  s_reg0 (rest := [1, 2, 3, 4, 5, 6]) rfl rfl hr (so_val rfl h1 (so_val rfl h2 (so_val rfl h3 (so_val rfl h4 (so_val rfl h5 (so_val rfl h6 (so_nil h)))))))
theorem cmpI_ret {n b1 b2 : Nat} {w : World} :
    CallsDIn Fence.wide n Tryz.prog 109 #[.pointer (some ⟨b1, 0, none⟩), .pointer (some ⟨b2, 0, none⟩)] .returning w (fun e u' w' => (∃ v, e = .returned v) ∧ u' = .returning ∧ w' = w) := by
  refine dIn (args := [.pointer (some ⟨b1, 0, none⟩), .pointer (some ⟨b2, 0, none⟩)]) Tryz.func109 rfl (fun c₀ cs hu => ?_)
  refine wpS_seq ?_
  refine s_reg7 (v1 := .tuple #[.nilIface, .bool false]) (v2 := .tuple #[.nilIface, .bool false]) (v3 := .nilIface) (v4 := .bool false) (v5 := .nilIface) (v6 := .bool false) (by simp [recoverD, hu]) ?_ ?_ ?_ ?_ ?_ ?_ ?_
  · have h : (Instr.typeAssert .nilIface 20 123 true).run Tryz.prog w = .ok (.tuple #[.nilIface, .bool false]) w := by
      unfold Instr.typeAssert
      simp [run_underlying Tryz.underlying123]
    simp only [execOp]
    exact congrArg (fun r => Result.andThen r fun a w' => Result.ok (Next.value a) w') h
  · rfl
  · rfl
  · rfl
  · rfl
  · rfl
  refine wpS_of_wp (wpIn_wide (n := 0).1 ?_)
  refine c_seq (r := none) ?_
  refine c_reg (r := none) ?_
  refine l_op (r := none) (k_move (v := .bool false) rfl ?_)
  refine l_op (r := none) (k_move (v := .bool false) rfl ?_)
  with_reducible refine l_not (r := none) (d := 12) (s := 11) ?_ ?_ ?_
  exact rfl
  exact rfl
  with_reducible refine l_not (r := none) (d := 13) (s := 11) ?_ ?_ ?_
  exact rfl
  exact rfl
  with_reducible refine l_not (r := none) (d := 14) (s := 11) ?_ ?_ ?_
  exact rfl
  exact rfl
  refine l_op (r := none) (k_pick (t := false) (v := .bool false) rfl rfl ?_)
  refine l_nil ?_
  refine n_then ?_
  refine c_false (r := none) rfl ?_
  refine c_skip (r := none) ?_
  exact ⟨rfl, .returning, by rw [← hu], _, res0 rfl, ⟨_, rfl⟩, rfl, rfl⟩
theorem cmpR_ret {n b1 b2 : Nat} {w : World} :
    CallsDIn Fence.wide n Tryz.prog 134 #[.pointer (some ⟨b1, 0, none⟩), .pointer (some ⟨b2, 0, none⟩)] .returning w (fun e u' w' => (∃ v, e = .returned v) ∧ u' = .returning ∧ w' = w) := by
  refine dIn (args := [.pointer (some ⟨b1, 0, none⟩), .pointer (some ⟨b2, 0, none⟩)]) Tryz.func134 rfl (fun c₀ cs hu => ?_)
  refine wpS_seq ?_
  refine s_reg7 (v1 := .tuple #[.nilIface, .bool false]) (v2 := .tuple #[.nilIface, .bool false]) (v3 := .nilIface) (v4 := .bool false) (v5 := .nilIface) (v6 := .bool false) (by simp [recoverD, hu]) ?_ ?_ ?_ ?_ ?_ ?_ ?_
  · have h : (Instr.typeAssert .nilIface 20 123 true).run Tryz.prog w = .ok (.tuple #[.nilIface, .bool false]) w := by
      unfold Instr.typeAssert
      simp [run_underlying Tryz.underlying123]
    simp only [execOp]
    exact congrArg (fun r => Result.andThen r fun a w' => Result.ok (Next.value a) w') h
  · rfl
  · rfl
  · rfl
  · rfl
  · rfl
  refine wpS_of_wp (wpIn_wide (n := 0).1 ?_)
  refine c_seq (r := none) ?_
  refine c_reg (r := none) ?_
  refine l_op (r := none) (k_move (v := .bool false) rfl ?_)
  refine l_op (r := none) (k_move (v := .bool false) rfl ?_)
  with_reducible refine l_not (r := none) (d := 12) (s := 11) ?_ ?_ ?_
  exact rfl
  exact rfl
  with_reducible refine l_not (r := none) (d := 13) (s := 11) ?_ ?_ ?_
  exact rfl
  exact rfl
  with_reducible refine l_not (r := none) (d := 14) (s := 11) ?_ ?_ ?_
  exact rfl
  exact rfl
  refine l_op (r := none) (k_pick (t := false) (v := .bool false) rfl rfl ?_)
  refine l_nil ?_
  refine n_then ?_
  refine c_false (r := none) rfl ?_
  refine c_skip (r := none) ?_
  exact ⟨rfl, .returning, by rw [← hu], _, res0 rfl, ⟨_, rfl⟩, rfl, rfl⟩
abbrev dV (g b1 b2 : Nat) : Deferred := { target := .fn (.func g) [Value.pointer (some ⟨b1, 0, none⟩), Value.pointer (some ⟨b2, 0, none⟩)].toArray, args := #[] }
def RetsN (g b1 b2 : Nat) : Prop := ∀ (n : Nat) (w : World), CallsDIn Fence.wide n Tryz.prog g #[.pointer (some ⟨b1, 0, none⟩), .pointer (some ⟨b2, 0, none⟩)] .returning w (fun e u' w' => (∃ v, e = .returned v) ∧ u' = .returning ∧ w' = w)
theorem f_inT {P : Program} {f : FuncId} {fn : Func} {c : Code} {args : List Value} {w : World} {R : Ending → World → Prop} (hf : P.funcs[f]? = some fn) (hb : fn.body = some c)
    (h : c.wpIn (Fw none) 0 P (bodyPostDIn Fence.wide 0 P fn R) (act (args.length + (fn.ntmps - args.length)) (ent args) []) w) : Calls P f args.toArray w R := by
  refine callsIn_wide.1 (callsIn_of_wp_defers (n := 0) hf hb trivial ?_)
  rw [act_start]
  exact h
theorem t_retV {fn : Func} {N g b1 b2 : Nat} {e : Nat → Value} {w w' : World} {R : Value → World → Prop} {v : Value} (hg : Enters Tryz.prog g) (hc : RetsN g b1 b2) (hx : Ext w w') (hr : (results fn (act N e [dV g b1 b2]).tmps).run Tryz.prog w' = .ok v w') (hR : R v w') :
    bodyPostDIn Fence.wide 0 Tryz.prog fn (Ret w R) .ret (act N e [dV g b1 b2]) w' := by
  refine leavesIn_cons (f := g) (args := #[.pointer (some ⟨b1, 0, none⟩), .pointer (some ⟨b2, 0, none⟩)]) (by simp) (by simp [Fence.wide]) ?_ (fun _ _ => trivial) ?_
  · have h := hg #[.pointer (some ⟨b1, 0, none⟩), .pointer (some ⟨b2, 0, none⟩)] w'
    simpa [invoke] using h
  · refine CallsDIn.mono (hc _ _) ?_
    rintro e' u' w'' ⟨⟨v', rfl⟩, rfl, rfl⟩
    exact ⟨v, hr, hx, hR⟩
end Go.Proofs.YtjijfnggomhpiaaGreatDoor
namespace Go.Proofs.YtjijfnggomhpiaaGreatDoor
set_option maxRecDepth 100000
open Go Go.Eng Go.RowKit
attribute [local irreducible] wpListIn Code.wpIn Oper.wpIn Exit.then Exit.inBlock Exit.noGoto
set_option maxHeartbeats 40000000
def IvR (x : R × R) : Prop := ∃ a b c d, x.1 = qR a b ∧ x.2 = qR c d ∧ Q9 a b ∧ Q9 c d ∧ a * d ≤ c * b
def cellsI (l : List (R × R)) : List Value := l.flatMap fun x => [S x.1.1, S x.1.2, S x.2.1, S x.2.2]
def iAt (l : List (R × R)) (i : Nat) : R × R := l.getD i (([], []), ([], []))
theorem cellsI_get : ∀ {l : List (R × R)} {i : Nat}, i < l.length → (cellsI l)[i * 4]? = some (S (iAt l i).1.1) ∧ (cellsI l)[i * 4 + 1]? = some (S (iAt l i).1.2) ∧ (cellsI l)[i * 4 + 2]? = some (S (iAt l i).2.1) ∧ (cellsI l)[i * 4 + 3]? = some (S (iAt l i).2.2)
  | a :: t, 0, _ => by simp [cellsI, iAt]
  | a :: t, i + 1, h => by
    have ih := cellsI_get (l := t) (i := i) (by simpa using h)
    rw [show (i + 1) * 4 = i * 4 + 4 by omega, show i * 4 + 4 + 1 = i * 4 + 1 + 4 by omega, show i * 4 + 4 + 2 = i * 4 + 2 + 4 by omega, show i * 4 + 4 + 3 = i * 4 + 3 + 4 by omega]
    simpa [cellsI, iAt] using ih
theorem rw_quad {w : World} {lo i : Nat} {A : Option Addr} {l : List (R × R)} (h : Rw w lo A (cellsI l)) (hi : i < l.length) :
    ∃ b o, A = some ⟨b, o, none⟩ ∧ ∀ j u, [S (iAt l i).1.1, S (iAt l i).1.2, S (iAt l i).2.1, S (iAt l i).2.2][j]? = some u → w.cell? ⟨b, o + i * 4 + j, none⟩ = some u := by
  obtain ⟨h1, h2, h3, h4⟩ := cellsI_get hi
  obtain ⟨b, o, hA, hc1⟩ := h.cells _ _ h1
  obtain ⟨b2, o2, hA2, hc2⟩ := h.cells _ _ h2
  obtain ⟨b3, o3, hA3, hc3⟩ := h.cells _ _ h3
  obtain ⟨b4, o4, hA4, hc4⟩ := h.cells _ _ h4
  rw [hA] at hA2 hA3 hA4; cases hA2; cases hA3; cases hA4
  refine ⟨b, o, hA, fun j u hu => ?_⟩
  match j, hu with
  | 0, hu => simp at hu; subst hu; simpa using hc1
  | 1, hu => simp at hu; subst hu; simpa [Nat.add_assoc] using hc2
  | 2, hu => simp at hu; subst hu; simpa [Nat.add_assoc] using hc3
  | 3, hu => simp at hu; subst hu; simpa [Nat.add_assoc] using hc4
theorem iAt_mem {l : List (R × R)} {i : Nat} (h : i < l.length) : iAt l i ∈ l := by unfold iAt; simp [h]
theorem okL {l m : List UInt8} {a b : Int} (e : (l, m) = qR a b) (h : Q9 a b) : okR (l, m) = true := e ▸ h.ok
theorem encCheck_ok {w : World} :
    Calls Tryz.prog 111 #[.bool (true)] w (Ret w fun v w' => v = .tuple #[]) := by
 refine f_in Tryz.func111 rfl ?_;refine go ?_;exact f_end (res0 rfl) (Ext.refl _) rfl
theorem encValid_ok {x : R × R} {w : World} (hx : IvR x) (ht : Tb w) :
    Calls Tryz.prog 37 #[.agg #[S (x.1.1), S (x.1.2), S (x.2.1), S (x.2.2)]] w (Ret w fun v w' => v = .bool true) := by
 obtain ⟨a, b, c, d, e1, e2, q1, q2, hle⟩ := hx;refine f_in Tryz.func37 rfl ?_;refine go ?_;refine bx (fun aop aoo r8 => ?_);have sc := aoo.2;refine go ?_;refine cl en82 (cB (rValid_ok _ _ _ (ht.ext sc)) (okL e1 q1)) ?_;rintro aoq aor aol rfl;have r8 := be aol.2 r8;have sc := xt sc aol.2;refine go ?_;refine cl en82 (cB (rValid_ok _ _ _ (ht.ext sc)) (okL e2 q2)) ?_;rintro aos aot aom rfl;have r8 := be aom.2 r8;have sc := xt sc aom.2;refine go ?_;refine cl en49 (qCmpL e1 e2 q1 q2 (ht.ext sc)) ?_;rintro aou aov aon rfl;have sc := xt sc aon.2;refine go ?_;exact f_ret1 (t := 2) (v := .bool (decide ((cmpI (a * d) (c * b)) ≤ 0))) rfl sc (congrArg Value.bool (decide_eq_true (cmpI_nonpos.2 hle))) rfl
theorem encNotI_ok {x : R × R} {w : World} (hx : IvR x) (ht : Tb w) :
    Calls Tryz.prog 113 #[.agg #[S (x.1.1), S (x.1.2), S (x.2.1), S (x.2.2)]] w (Ret w fun v w' => v = .bool false) := by
 refine f_in Tryz.func113 rfl ?_;refine go ?_;refine bx (fun aon aom sc => ?_);have r8 := aom.2;refine go ?_;refine l_op (k_loadA (cs := [S (x.1.1), S (x.1.2), S (x.2.1), S (x.2.2)]) (b := w.heap.size) (o := 0) U1032 rfl sz1032 rfl (Blk.cells sc (i := 0) rfl) ?_);refine cl en1056 (encValid_ok hx (ht.ext r8)) ?_;rintro aoo aop aol rfl;have r8 := xt r8 aol.2;refine go ?_;exact f_ret1 (t := 2) (v := .bool (false)) rfl r8 rfl rfl
theorem encNotR_ok {x : R × R} {w : World} (hx : IvR x) (ht : Tb w) :
    Calls Tryz.prog 135 #[.agg #[S (x.1.1), S (x.1.2), S (x.2.1), S (x.2.2)]] w (Ret w fun v w' => v = .bool false) := by
 refine f_in Tryz.func135 rfl ?_;refine go ?_;refine bx (fun aon aom sc => ?_);have r8 := aom.2;refine go ?_;refine l_op (k_loadA (cs := [S (x.1.1), S (x.1.2), S (x.2.1), S (x.2.2)]) (b := w.heap.size) (o := 0) U1032 rfl sz1032 rfl (Blk.cells sc (i := 0) rfl) ?_);refine cl en1056 (encValid_ok hx (ht.ext r8)) ?_;rintro aoo aop aol rfl;have r8 := xt r8 aol.2;refine go ?_;exact f_ret1 (t := 2) (v := .bool (false)) rfl r8 rfl rfl
theorem index_ok {A : Option Addr} {n cp lo g : Nat} {l : List (R × R)} {w : World} (hr : Rw w lo A (cellsI l)) (hn : l.length = n) (hb : n ≤ 1000) (hg : Enters Tryz.prog g) (hf : ∀ i < n, ∀ W, Ext w W → Calls Tryz.prog g #[.agg #[S (iAt l i).1.1, S (iAt l i).1.2, S (iAt l i).2.1, S (iAt l i).2.2]] W (Ret W fun v _ => v = .bool false)) :
    Calls Tryz.prog 148 #[.slice (A) (n) (cp), .func (.func g) #[] #[]] w (Ret w fun v w' => v = .int .i64 (-1)) := by
 refine f_in Tryz.func148 rfl ?_;refine go ?_;have aol := Ext.refl w;refine c_lp [(4, 5), (8, 18)] (fun kk e W => ∃ i : Nat, (n - i = kk) ∧ (e 8 = .int .i64 i) ∧ (i ≤ n) ∧ (Ext w W)) (n - (0)) ⟨0, rfl, rfl, (Nat.zero_le _), aol⟩ ?_;rintro aon aoo aop ⟨i, rfl, sc, hi, r8⟩;have aoq := bz r8;by_cases hl : i < n;obtain ⟨bk, o, hA, hcs⟩ := rw_quad (hr.ext r8) (i := i) om;refine go ?_;refine l_op (k_indexAddr (i := i) (oo := o + i * 4) U1116 sz1032 rfl hA rfl om rfl ?_);refine l_op (k_loadA (cs := [S (iAt l i).1.1, S (iAt l i).1.2, S (iAt l i).2.1, S (iAt l i).2.2]) (b := bk) (o := o + i * 4) U1032 rfl sz1032 rfl hcs ?_);refine l_op (clV (vs := [.agg #[S (iAt l i).1.1, S (iAt l i).1.2, S (iAt l i).2.1, S (iAt l i).2.2]]) (lb := []) hg rfl rfl (hf i om _ r8) ?_);rintro aor aos aom rfl;have r8 := xt r8 aom.2;refine go ?_;refine l_op (k_add (a := (i : Int)) (b := 1) (c := ((i + 1 : Nat) : Int)) sc rfl (by unfold In64; omega) om ?_);refine go ?_;exact lend ⟨i + 1, rfl, rfl, om, r8⟩;refine go ?_;exact f_ret1 (t := 4) (v := .int .i64 ((-1))) rfl r8 rfl rfl
theorem contains_ok {A : Option Addr} {n cp lo g : Nat} {l : List (R × R)} {w : World} (hr : Rw w lo A (cellsI l)) (hn : l.length = n) (hb : n ≤ 1000) (hg : Enters Tryz.prog g) (hf : ∀ i < n, ∀ W, Ext w W → Calls Tryz.prog g #[.agg #[S (iAt l i).1.1, S (iAt l i).1.2, S (iAt l i).2.1, S (iAt l i).2.2]] W (Ret W fun v _ => v = .bool false)) :
    Calls Tryz.prog 112 #[.slice (A) (n) (cp), .func (.func g) #[] #[]] w (Ret w fun v w' => v = .bool false) := by
 refine f_in Tryz.func112 rfl ?_;refine go ?_;refine cl en1135 (index_ok (hr.ext (Ext.refl _)) hn hb hg (fun i hi W e => hf i hi W (xt (Ext.refl _) e))) ?_;rintro aol aom r8 rfl;have sc := r8.2;refine go ?_;exact f_ret1 (t := 4) (v := .bool (false)) rfl sc rfl rfl
end Go.Proofs.YtjijfnggomhpiaaGreatDoor
namespace Go.Proofs.YtjijfnggomhpiaaGreatDoor
set_option maxRecDepth 100000
open Go Go.Eng Go.RowKit
attribute [local irreducible] wpListIn Code.wpIn Oper.wpIn Exit.then Exit.inBlock Exit.noGoto
set_option maxHeartbeats 40000000
theorem computeI_ok {gf n cp lo : Nat} {lb : List Value} {A : Option Addr} {l : List (R × R)} {x : R × R} {w : World} (hg : Enters Tryz.prog gf) (hr : Rw w lo A (cellsI l)) (hn : l.length = n) (hb : n ≤ 1000) (hv : ∀ x ∈ l, IvR x) (hc : ∀ W, Ext w W → Calls Tryz.prog gf lb.toArray W (Ret W fun v _ => v = .agg #[S (x.1.1), S (x.1.2), S (x.2.1), S (x.2.2)])) (ht : Tb w) :
    Calls Tryz.prog 57 #[.func (.func gf) #[] lb.toArray, .slice (A) (n) (cp)] w (Ret w fun v w' => v = .tuple #[.agg #[S (x.1.1), S (x.1.2), S (x.2.1), S (x.2.2)], .int .i64 0]) := by
 refine f_inT Tryz.func57 rfl ?_;refine go ?_;refine al inf1032 (fun aom aou sc => ?_);have r8 := aou.2;refine al inf32 (fun aow aot aol => ?_);have sc := be aot.2 sc;have r8 := xt r8 aot.2;refine go ?_;refine l_op (k_makeFunc (vf := []) (vc := [.pointer (some ⟨w.heap.size, 0, none⟩), .pointer (some ⟨aom.heap.size, 0, none⟩)]) rfl rfl ?_);refine l_op (k_deferV (lb := [.pointer (some ⟨w.heap.size, 0, none⟩), .pointer (some ⟨aom.heap.size, 0, none⟩)]) rfl ?_);refine go ?_;refine clb en1100 (hc := contains_ok (hr.ext r8) hn hb en1101 (fun i hi W e => encNotI_ok (hv _ (iAt_mem om)) ((ht.ext r8).ext e))) (hk := ?_);rintro aox aoy aon rfl;have sc := be aon.2 sc;have aol := be aon.2 aol;have r8 := xt r8 aon.2;refine go ?_;refine cl en1099 (encCheck_ok) ?_;rintro aoz ao0 aoo rfl;have sc := be aoo.2 sc;have aol := be aoo.2 aol;have r8 := xt r8 aoo.2;refine go ?_;refine l_op (clV (f := gf) (lb := lb) (vs := []) hg rfl rfl (hc _ r8) ?_);rintro ao1 ao2 aop rfl;have sc := be aop.2 sc;have aol := be aop.2 aol;have r8 := xt r8 aop.2;refine SA sc (fun ao3 aoq aor => ?_);have aol := pb aoq aol;have r8 := plw aoq r8;have ao4 := psz aoq;refine SO aol (fun ao5 aos aov => ?_);have aor := pb aos aor;have r8 := plw aos r8;have ao6 := psz aos;refine go ?_;refine t_retV (b1 := w.heap.size) (b2 := aom.heap.size) (v := .tuple #[.agg #[S (x.1.1), S (x.1.2), S (x.2.1), S (x.2.2)], .int .i64 0]) en1097 (fun _ _ => cmpI_ret) r8 (res2 (r1 := .cell 4 29) (r2 := .cell 5 30) rfl ?_ ?_) rfl
 refine res_cellA (t := 4) (cs := [S (x.1.1), S (x.1.2), S (x.2.1), S (x.2.2)]) (b := w.heap.size) (o := 0) U1032 rfl sz1032 ?_ ?_;exact rfl;exact Blk.cells aor (i := 0) rfl;refine res_cell (t := 5) (b := aom.heap.size) (o := 0) U32 rfl ?_ ?_;exact rfl;exact Blk.cell aov rfl
theorem computeR_ok {gf n cp lo : Nat} {lb : List Value} {A : Option Addr} {l : List (R × R)} {x : R} {w : World} (hg : Enters Tryz.prog gf) (hr : Rw w lo A (cellsI l)) (hn : l.length = n) (hb : n ≤ 1000) (hv : ∀ x ∈ l, IvR x) (hc : ∀ W, Ext w W → Calls Tryz.prog gf lb.toArray W (Ret W fun v _ => v = .agg #[S (x.1), S (x.2)])) (ht : Tb w) :
    Calls Tryz.prog 87 #[.func (.func gf) #[] lb.toArray, .slice (A) (n) (cp)] w (Ret w fun v w' => v = .tuple #[.agg #[S (x.1), S (x.2)], .int .i64 0]) := by
 refine f_inT Tryz.func87 rfl ?_;refine go ?_;refine al inf36 (fun aom aou sc => ?_);have r8 := aou.2;refine al inf32 (fun aow aot aol => ?_);have sc := be aot.2 sc;have r8 := xt r8 aot.2;refine go ?_;refine l_op (k_makeFunc (vf := []) (vc := [.pointer (some ⟨w.heap.size, 0, none⟩), .pointer (some ⟨aom.heap.size, 0, none⟩)]) rfl rfl ?_);refine l_op (k_deferV (lb := [.pointer (some ⟨w.heap.size, 0, none⟩), .pointer (some ⟨aom.heap.size, 0, none⟩)]) rfl ?_);refine go ?_;refine clb en1100 (hc := contains_ok (hr.ext r8) hn hb en1131 (fun i hi W e => encNotR_ok (hv _ (iAt_mem om)) ((ht.ext r8).ext e))) (hk := ?_);rintro aox aoy aon rfl;have sc := be aon.2 sc;have aol := be aon.2 aol;have r8 := xt r8 aon.2;refine go ?_;refine cl en1099 (encCheck_ok) ?_;rintro aoz ao0 aoo rfl;have sc := be aoo.2 sc;have aol := be aoo.2 aol;have r8 := xt r8 aoo.2;refine go ?_;refine l_op (clV (f := gf) (lb := lb) (vs := []) hg rfl rfl (hc _ r8) ?_);rintro ao1 ao2 aop rfl;have sc := be aop.2 sc;have aol := be aop.2 aol;have r8 := xt r8 aop.2;refine SA sc (fun ao3 aoq aor => ?_);have aol := pb aoq aol;have r8 := plw aoq r8;have ao4 := psz aoq;refine SO aol (fun ao5 aos aov => ?_);have aor := pb aos aor;have r8 := plw aos r8;have ao6 := psz aos;refine go ?_;refine t_retV (b1 := w.heap.size) (b2 := aom.heap.size) (v := .tuple #[.agg #[S (x.1), S (x.2)], .int .i64 0]) en1130 (fun _ _ => cmpR_ret) r8 (res2 (r1 := .cell 4 25) (r2 := .cell 5 30) rfl ?_ ?_) rfl
 refine res_cellA (t := 4) (cs := [S (x.1), S (x.2)]) (b := w.heap.size) (o := 0) U36 rfl sz36 ?_ ?_;exact rfl;exact Blk.cells aor (i := 0) rfl;refine res_cell (t := 5) (b := aom.heap.size) (o := 0) U32 rfl ?_ ?_;exact rfl;exact Blk.cell aov rfl
theorem must_ok {l m : List UInt8} {w : World} :
    Calls Tryz.prog 84 #[.agg #[S (l), S (m)], .int .i64 (0)] w (Ret w fun v w' => v = .agg #[S (l), S (m)]) := by
 refine f_in Tryz.func84 rfl ?_;refine go ?_;refine bx (fun aoo aoq r8 => ?_);have sc := aoq.2;refine al inf36 (fun aos aop aol => ?_);have r8 := be aop.2 r8;have sc := xt sc aop.2;refine go ?_;refine cl en1099 (encCheck_ok) ?_;rintro aot aou aom rfl;have r8 := be aom.2 r8;have aol := be aom.2 aol;have sc := xt sc aom.2;refine go ?_;refine SA aol (fun aov aon aor => ?_);have r8 := pb aon r8;have sc := plw aon sc;have aow := psz aon;refine go ?_;refine f_out (v := .agg #[S (l), S (m)]) (res1  rfl ?_) sc rfl;refine res_cellA (t := 4) (cs := [S (l), S (m)]) (b := aoo.heap.size) (o := 0) U36 rfl sz36 ?_ ?_;exact rfl;exact Blk.cells aor (i := 0) rfl
end Go.Proofs.YtjijfnggomhpiaaGreatDoor
namespace Go.Proofs.YtjijfnggomhpiaaGreatDoor
set_option maxRecDepth 100000
open Go Go.Eng Go.RowKit
attribute [local irreducible] wpListIn Code.wpIn Oper.wpIn Exit.then Exit.inBlock Exit.noGoto
set_option maxHeartbeats 40000000
def flI (a b t : Int) : Int := a * t / b
def clI (a b t : Int) : Int := if a * t % b = 0 then a * t / b else a * t / b + 1
theorem red_div {a b t : Int} (hb : 0 < b) : redN a b * t / redD a b = a * t / b ∧ (redN a b * t % redD a b = 0 ↔ a * t % b = 0) := by
  have h1 := rq_n (n := a) hb
  have h2 := rq_d (n := a) hb
  have hg := gcd_pos (n := a) hb
  generalize redN a b = p at *
  generalize redD a b = q at *
  generalize ((Int.gcd a b : Nat) : Int) = g at *
  subst h1 h2
  rw [show p * g * t = p * t * g by grind]
  refine ⟨(Int.mul_ediv_mul_of_pos_left _ _ hg).symm, ?_⟩
  rw [Int.mul_comm (p * t) g, Int.mul_comm q g, Int.mul_emod_mul_of_pos _ _ hg]
  constructor
  · intro h; rw [h, Int.mul_zero]
  · intro h; rcases Int.mul_eq_zero.1 h with h | h; omega; exact h
theorem rd_fl {a b t : Int} (hb : 0 < b) : rdI (redN a b) (redD a b) t false = flI a b t := by
  unfold rdI flI; rw [if_neg (fun e => absurd e.1 dc), (red_div hb).1]
theorem rd_cl {a b t : Int} (hb : 0 < b) : rdI (redN a b) (redD a b) t true = clI a b t := by
  unfold rdI clI
  rw [(red_div hb).1]
  by_cases h : a * t % b = 0
  · rw [if_pos h, if_neg (fun e => e.2 (showI_zero.2 ((red_div hb).2.2 h)))]
  · rw [if_neg h, if_pos ⟨rfl, fun e => h ((red_div hb).2.1 (showI_zero.1 e))⟩]
def tenI (pl : Nat) : Int := ((10 ^ pl : Nat) : Int)
theorem ten_pos (pl : Nat) : 0 < tenI pl := by unfold tenI; have := Nat.pow_pos (n := pl) (show 0 < 10 by decide); omega
theorem ten_le {pl : Nat} (h : pl ≤ 30) : tenI pl ≤ 10 ^ 30 := by
  unfold tenI
  have h1 : (10 : Nat) ^ pl ≤ 10 ^ 30 := Nat.pow_le_pow_right dc h
  have h2 : (((10 : Nat) ^ 30 : Nat) : Int) = (10 : Int) ^ 30 := by decide
  omega
theorem rd_bound {a b : Int} {pl : Nat} (h : Q9 a b) (hp : pl ≤ 30) : (redN a b * tenI pl).natAbs < 10 ^ 199 := by
  have h1 := h.red.1
  have h2 : (tenI pl).natAbs ≤ 10 ^ 30 := by have := ten_le hp; have := ten_pos pl; omega
  rw [Int.natAbs_mul]
  have h3 : (redN a b).natAbs * (tenI pl).natAbs ≤ 10 ^ 90 * 10 ^ 30 := Nat.mul_le_mul om h2
  have h4 : 10 ^ 90 * 10 ^ 30 < 10 ^ 199 := by decide
  omega
theorem qDown_ok {l m : List UInt8} {a b : Int} {pl : Nat} {w : World} (e : (l, m) = qR a b) (h : Q9 a b) (hp : pl ≤ 30) (ht : Tb w) : Calls Tryz.prog 85 #[.agg #[S l, S m], .int .i64 pl] w (Ret w fun v _ => v = Qv (flI a b (tenI pl)) (tenI pl)) := by
  rw [show l = (qR a b).1 from congrArg Prod.fst e, show m = (qR a b).2 from congrArg Prod.snd e]
  exact cEq (rDown_ok h.ok (fz_rn h.2.1 h.fz.1) (fz_rd h.2.1 h.fz.2) hp (rd_bound h hp) ht) (congrArg (fun z => Qv z (tenI pl)) (rd_fl h.2.1))
theorem qUp_ok {l m : List UInt8} {a b : Int} {pl : Nat} {w : World} (e : (l, m) = qR a b) (h : Q9 a b) (hp : pl ≤ 30) (ht : Tb w) : Calls Tryz.prog 86 #[.agg #[S l, S m], .int .i64 pl] w (Ret w fun v _ => v = Qv (clI a b (tenI pl)) (tenI pl)) := by
  rw [show l = (qR a b).1 from congrArg Prod.fst e, show m = (qR a b).2 from congrArg Prod.snd e]
  exact cEq (rUp_ok h.ok (fz_rn h.2.1 h.fz.1) (fz_rd h.2.1 h.fz.2) hp (rd_bound h hp) ht) (congrArg (fun z => Qv z (tenI pl)) (rd_cl h.2.1))
theorem round1_ok {b1 b2 pl : Nat} {a b c d : Int} {x : R × R} {w : World} (e1 : x.1 = qR a b) (e2 : x.2 = qR c d) (q1 : Q9 a b) (q2 : Q9 c d) (hb1 : Blk w b1 29 #[S x.1.1, S x.1.2, S x.2.1, S x.2.2]) (hb2 : Blk w b2 3 #[.int .i64 pl]) (hp : pl ≤ 30) (ht : Tb w) :
    Calls Tryz.prog 83 #[.pointer (some ⟨b1, 0, none⟩), .pointer (some ⟨b2, 0, none⟩)] w (Ret w fun v w' => v = .agg #[S ((qR (flI a b (tenI pl)) (tenI pl)).1), S ((qR (flI a b (tenI pl)) (tenI pl)).2), S ((qR (clI c d (tenI pl)) (tenI pl)).1), S ((qR (clI c d (tenI pl)) (tenI pl)).2)]) := by
 have zb1 := bt hb1;have zb2 := bt hb2;refine f_in Tryz.func83 rfl ?_;refine go ?_;refine al inf1032 (fun ao9 aot r8 => ?_);have hb1 := be aot.2 hb1;have hb2 := be aot.2 hb2;have sc := aot.2;refine go ?_;refine c_an 13 ?_;refine sf ?_;refine sf_ae (V := .tuple #[.agg #[S ((qR (flI a b (tenI pl)) (tenI pl)).1), S ((qR (flI a b (tenI pl)) (tenI pl)).2)], .int .i64 (0)]) (fun apj apk aol apl => ?_) ?_;refine cl en1090 (qDown_ok e1 q1 hp (ht.ext (xt sc aol))) ?_;rintro apm apn aom rfl;have ao5 := aom.2;refine go ?_;exact fs ⟨ao5, rfl⟩;refine sf ?_;refine sf_ae (V := .agg #[S ((qR (flI a b (tenI pl)) (tenI pl)).1), S ((qR (flI a b (tenI pl)) (tenI pl)).2)]) (fun apv apw aoz apx => ?_) ?_;refine cl en1089 (must_ok) ?_;rintro apy apz aon rfl;have ao6 := aon.2;refine go ?_;exact fs ⟨ao6, rfl⟩;refine sf ?_;refine sf_ae (V := .tuple #[.agg #[S ((qR (clI c d (tenI pl)) (tenI pl)).1), S ((qR (clI c d (tenI pl)) (tenI pl)).2)], .int .i64 (0)]) (fun ap9 aqa aoo aqb => ?_) ?_;refine cl en1091 (qUp_ok e2 q2 hp (ht.ext (xt sc aoo))) ?_;rintro aqc aqd aop rfl;have ao7 := aop.2;refine go ?_;exact fs ⟨ao7, rfl⟩;refine sf ?_;intro aqk aql aoq aqm;have hb1 := be aoq.2 hb1;have hb2 := be aoq.2 hb2;have r8 := be aoq.2 r8;have sc := xt sc aoq.2;refine cl en1089 (must_ok) ?_;rintro aqn aqo aor rfl;have hb1 := be aor.2 hb1;have hb2 := be aor.2 hb2;have r8 := be aor.2 r8;have sc := xt sc aor.2;refine l_op (k_build (vs := [(0, .agg #[S ((qR (flI a b (tenI pl)) (tenI pl)).1), S ((qR (flI a b (tenI pl)) (tenI pl)).2)]), (1, .agg #[S ((qR (clI c d (tenI pl)) (tenI pl)).1), S ((qR (clI c d (tenI pl)) (tenI pl)).2)])]) (cells := #[S ((qR (flI a b (tenI pl)) (tenI pl)).1), S ((qR (flI a b (tenI pl)) (tenI pl)).2), S ((qR (clI c d (tenI pl)) (tenI pl)).1), S ((qR (clI c d (tenI pl)) (tenI pl)).2)]) (pl := [(0, 2), (2, 2)]) U1032 inf1032 (by kernel_rfl) rfl (by kernel_rfl) ?_)
 refine SA r8 (fun aqp aos ao8 => ?_);have hb1 := pb aos hb1;have hb2 := pb aos hb2;have sc := plw aos sc;have aqq := psz aos;refine go ?_;refine f_out (v := .agg #[S ((qR (flI a b (tenI pl)) (tenI pl)).1), S ((qR (flI a b (tenI pl)) (tenI pl)).2), S ((qR (clI c d (tenI pl)) (tenI pl)).1), S ((qR (clI c d (tenI pl)) (tenI pl)).2)]) (res1  rfl ?_) sc rfl;refine res_cellA (t := 2) (cs := [S ((qR (flI a b (tenI pl)) (tenI pl)).1), S ((qR (flI a b (tenI pl)) (tenI pl)).2), S ((qR (clI c d (tenI pl)) (tenI pl)).1), S ((qR (clI c d (tenI pl)) (tenI pl)).2)]) (b := w.heap.size) (o := 0) U1032 rfl sz1032 ?_ ?_;exact rfl;exact Blk.cells ao8 (i := 0) rfl
theorem round_ok {pl : Nat} {a b c d : Int} {x : R × R} {w : World} (e1 : x.1 = qR a b) (e2 : x.2 = qR c d) (q1 : Q9 a b) (q2 : Q9 c d) (hle : a * d ≤ c * b) (hp : pl ≤ 30) (ht : Tb w) :
    Calls Tryz.prog 34 #[.agg #[S (x.1.1), S (x.1.2), S (x.2.1), S (x.2.2)], .int .i64 pl] w (Ret w fun v w' => v = .tuple #[.agg #[S ((qR (flI a b (tenI pl)) (tenI pl)).1), S ((qR (flI a b (tenI pl)) (tenI pl)).2), S ((qR (clI c d (tenI pl)) (tenI pl)).1), S ((qR (clI c d (tenI pl)) (tenI pl)).2)], .int .i64 0]) := by
 refine f_in Tryz.func34 rfl ?_;refine go ?_;refine bx (fun aor aou sc => ?_);have r8 := aou.2;refine bx (fun aos aot aol => ?_);have sc := be aot.2 sc;have r8 := xt r8 aot.2;refine al inf1032 (fun aov aoq aom => ?_);have sc := be aoq.2 sc;have aol := be aoq.2 aol;have r8 := xt r8 aoq.2;refine go ?_;refine l_op (k_makeFunc (vf := []) (vc := [.pointer (some ⟨w.heap.size, 0, none⟩), .pointer (some ⟨aor.heap.size, 0, none⟩)]) rfl rfl ?_);refine l_op (k_loadA (cs := [S (x.1.1), S (x.1.2), S (x.2.1), S (x.2.2)]) (b := w.heap.size) (o := 0) U1032 rfl sz1032 rfl (Blk.cells sc (i := 0) rfl) ?_);refine BS (fun aoy aon aoz aow => ?_);have sc := be aon sc;have aol := be aon aol;have aom := be aon aom;have r8 := xt r8 aon;have ao0 := bz aon;refine clb en1053 (hc := computeI_ok (l := [x]) (x := (qR (flI a b (tenI pl)) (tenI pl), qR (clI c d (tenI pl)) (tenI pl))) en1088 (Rw.of_own aow) rfl (by simp) (fun y hy => by rw [List.mem_singleton.1 hy]; exact ⟨a, b, c, d, e1, e2, q1, q2, hle⟩) (fun W e => round1_ok e1 e2 q1 q2 (sc.ext e) (aol.ext e) hp ((ht.ext r8).ext e)) (ht.ext r8)) (hk := ?_);rintro ao1 ao2 aoo rfl;have sc := be aoo.2 sc;have aol := be aoo.2 aol;have aom := be aoo.2 aom;have r8 := xt r8 aoo.2;refine go ?_;refine SA aom (fun ao3 aop aox => ?_);have sc := pb aop sc;have aol := pb aop aol;have r8 := plw aop r8;have ao4 := psz aop;refine go ?_
 refine f_out (v := .tuple #[.agg #[S ((qR (flI a b (tenI pl)) (tenI pl)).1), S ((qR (flI a b (tenI pl)) (tenI pl)).2), S ((qR (clI c d (tenI pl)) (tenI pl)).1), S ((qR (clI c d (tenI pl)) (tenI pl)).2)], .int .i64 (0)]) (res2 (r1 := .cell 4 29) (r2 := .tmp 5) rfl ?_ ?_) r8 rfl;refine res_cellA (t := 4) (cs := [S ((qR (flI a b (tenI pl)) (tenI pl)).1), S ((qR (flI a b (tenI pl)) (tenI pl)).2), S ((qR (clI c d (tenI pl)) (tenI pl)).1), S ((qR (clI c d (tenI pl)) (tenI pl)).2)]) (b := aos.heap.size) (o := 0) U1032 rfl sz1032 ?_ ?_;exact rfl;exact Blk.cells aox (i := 0) rfl;exact res_tmp (t := 5) (by exact rfl) _
theorem width1_ok {b1 : Nat} {a b c d : Int} {x : R × R} {w : World} (e1 : x.1 = qR a b) (e2 : x.2 = qR c d) (q1 : Q9 a b) (q2 : Q9 c d) (hb1 : Blk w b1 29 #[S x.1.1, S x.1.2, S x.2.1, S x.2.2]) (ht : Tb w) :
    Calls Tryz.prog 88 #[.pointer (some ⟨b1, 0, none⟩)] w (Ret w fun v w' => v = .agg #[S ((qR (c * b - a * d) (d * b)).1), S ((qR (c * b - a * d) (d * b)).2)]) := by
 have zb1 := bt hb1;refine f_in Tryz.func88 rfl ?_;refine go ?_;refine al inf36 (fun aoq aoo sc => ?_);have hb1 := be aoo.2 hb1;have r8 := aoo.2;refine go ?_;refine cl en220 (qSubL e2 e1 q2 q1 (ht.ext r8)) ?_;rintro aor aos aol rfl;have hb1 := be aol.2 hb1;have sc := be aol.2 sc;have r8 := xt r8 aol.2;refine go ?_;refine cl en1089 (must_ok) ?_;rintro aot aou aom rfl;have hb1 := be aom.2 hb1;have sc := be aom.2 sc;have r8 := xt r8 aom.2;refine SA sc (fun aov aon aop => ?_);have hb1 := pb aon hb1;have r8 := plw aon r8;have aow := psz aon;refine go ?_;refine f_out (v := .agg #[S ((qR (c * b - a * d) (d * b)).1), S ((qR (c * b - a * d) (d * b)).2)]) (res1  rfl ?_) r8 rfl;refine res_cellA (t := 1) (cs := [S ((qR (c * b - a * d) (d * b)).1), S ((qR (c * b - a * d) (d * b)).2)]) (b := w.heap.size) (o := 0) U36 rfl sz36 ?_ ?_;exact rfl;exact Blk.cells aop (i := 0) rfl
theorem width_ok {a b c d : Int} {x : R × R} {w : World} (e1 : x.1 = qR a b) (e2 : x.2 = qR c d) (q1 : Q9 a b) (q2 : Q9 c d) (hle : a * d ≤ c * b) (ht : Tb w) :
    Calls Tryz.prog 35 #[.agg #[S (x.1.1), S (x.1.2), S (x.2.1), S (x.2.2)]] w (Ret w fun v w' => v = .tuple #[.agg #[S ((qR (c * b - a * d) (d * b)).1), S ((qR (c * b - a * d) (d * b)).2)], .int .i64 0]) := by
 refine f_in Tryz.func35 rfl ?_;refine go ?_;refine bx (fun aop aor sc => ?_);have r8 := aor.2;refine al inf36 (fun aos aoq aol => ?_);have sc := be aoq.2 sc;have r8 := xt r8 aoq.2;refine go ?_;refine l_op (k_makeFunc (vf := []) (vc := [.pointer (some ⟨w.heap.size, 0, none⟩)]) rfl rfl ?_);refine l_op (k_loadA (cs := [S (x.1.1), S (x.1.2), S (x.2.1), S (x.2.2)]) (b := w.heap.size) (o := 0) U1032 rfl sz1032 rfl (Blk.cells sc (i := 0) rfl) ?_);refine BS (fun aov aom aow aot => ?_);have sc := be aom sc;have aol := be aom aol;have r8 := xt r8 aom;have aox := bz aom;refine clb en1092 (hc := computeR_ok (l := [x]) (x := qR (c * b - a * d) (d * b)) en1093 (Rw.of_own aot) rfl (by simp) (fun y hy => by rw [List.mem_singleton.1 hy]; exact ⟨a, b, c, d, e1, e2, q1, q2, hle⟩) (fun W e => width1_ok e1 e2 q1 q2 (sc.ext e) ((ht.ext r8).ext e)) (ht.ext r8)) (hk := ?_);rintro aoy aoz aon rfl;have sc := be aon.2 sc;have aol := be aon.2 aol;have r8 := xt r8 aon.2;refine go ?_;refine SA aol (fun ao0 aoo aou => ?_);have sc := pb aoo sc;have r8 := plw aoo r8;have ao1 := psz aoo;refine go ?_;refine f_out (v := .tuple #[.agg #[S ((qR (c * b - a * d) (d * b)).1), S ((qR (c * b - a * d) (d * b)).2)], .int .i64 (0)]) (res2 (r1 := .cell 2 25) (r2 := .tmp 3) rfl ?_ ?_) r8 rfl;refine res_cellA (t := 2) (cs := [S ((qR (c * b - a * d) (d * b)).1), S ((qR (c * b - a * d) (d * b)).2)]) (b := aop.heap.size) (o := 0) U36 rfl sz36 ?_ ?_
 exact rfl;exact Blk.cells aou (i := 0) rfl;exact res_tmp (t := 3) (by exact rfl) _
theorem point_ok {l m : List UInt8} {a b : Int} {w : World} (e1 : (l, m) = qR a b) (q1 : Q9 a b) (ht : Tb w) :
    Calls Tryz.prog 21 #[.agg #[S (l), S (m)]] w (Ret w fun v w' => v = .agg #[S (l), S (m), S (l), S (m)]) := by
 refine f_in Tryz.func21 rfl ?_;refine go ?_;refine bx (fun aoo aoq r8 => ?_);have sc := aoq.2;refine al inf1032 (fun aos aop aol => ?_);have r8 := be aop.2 r8;have sc := xt sc aop.2;refine go ?_;refine cl en82 (cB (rValid_ok _ _ _ (ht.ext sc)) (okL e1 q1)) ?_;rintro aot aou aom rfl;have r8 := be aom.2 r8;have aol := be aom.2 aol;have sc := xt sc aom.2;refine go ?_;refine l_op (k_build (vs := [(0, .agg #[S (l), S (m)]), (1, .agg #[S (l), S (m)])]) (cells := #[S (l), S (m), S (l), S (m)]) (pl := [(0, 2), (2, 2)]) U1032 inf1032 (by kernel_rfl) rfl (by kernel_rfl) ?_);refine SA aol (fun aov aon aor => ?_);have r8 := pb aon r8;have sc := plw aon sc;have aow := psz aon;refine go ?_;refine f_out (v := .agg #[S (l), S (m), S (l), S (m)]) (res1  rfl ?_) sc rfl;refine res_cellA (t := 2) (cs := [S (l), S (m), S (l), S (m)]) (b := aoo.heap.size) (o := 0) U1032 rfl sz1032 ?_ ?_;exact rfl;exact Blk.cells aor (i := 0) rfl
end Go.Proofs.YtjijfnggomhpiaaGreatDoor
namespace Go.Proofs.YtjijfnggomhpiaaGreatDoor
open Go Go.Eng Go.RowKit
theorem g36 : Tryz.prog.eqGuardType Tryz.prog.depth 25 = false := by kernel_rfl
theorem st36 : Tryz.prog.stoodInHeld 25 = false := by kernel_rfl
theorem part9 (w : World) (cs : Array Value) (i : Nat) (v : Value) (h : cs[i]? = some v) : (part 9 cs i).run Tryz.prog w = .ok v w := by
  unfold part
  simp [isAgg, run_underlying Tryz.underlying9, h]
theorem eq9 (w : World) (a b : List UInt8) (d : Nat) : (Op.equalIn (d + 1) 9 (S a) (S b)).run Tryz.prog w = .ok (decide (a = b)) w := by
  unfold Op.equalIn
  simp [run_underlying Tryz.underlying9, S]
  have h : ∀ x y : ByteArray, (x == y) = (x.data == y.data) := fun x y => by cases x; cases y; rfl
  rw [h]
  exact Bool.eq_iff_iff.2 (by simp)
theorem eq36 (w : World) (a b : R) : (Op.equal 25 (.agg #[S a.1, S a.2]) (.agg #[S b.1, S b.2])).run Tryz.prog w = .ok (decide (a = b)) w := by
  unfold Op.equal Op.maxDepth
  show (Op.equalIn (9998 + 1 + 1) 25 _ _).run _ _ = _
  unfold Op.equalIn
  obtain ⟨a1, a2⟩ := a
  obtain ⟨b1, b2⟩ := b
  have p1 := part9 w #[S a1, S a2] 0 (S a1) rfl
  have p2 := part9 w #[S a1, S a2] 1 (S a2) rfl
  have p3 := part9 w #[S b1, S b2] 0 (S b1) rfl
  have p4 := part9 w #[S b1, S b2] 1 (S b2) rfl
  have e1 := eq9 w a1 b1 9998
  have e2 := eq9 w a2 b2 9998
  simp [run_underlying Tryz.underlying25, st36, p1, p2, p3, p4, e1, e2]
  by_cases h1 : a1 = b1 <;> by_cases h2 : a2 = b2 <;> simp [h1, h2]
section
variable {r : Option Nat} {n N : Nat} {e : Nat → Value} {ds : List Deferred} {w : World} {Q : Exit → Act → World → Prop} {K : Act → World → Prop}
variable {d ty : Nat} {pos : String} {af : Array Edge} {g : Option (Nat × Bool)} {v u : Value} {x y : Operand} {t t' : TypeId}
theorem guard36 {op : BinOp} (x y : Operand) (a b : Array Value) : (eqGuard op 25 x y (.agg a) (.agg b)).run Tryz.prog w = .ok () w := by
  unfold eqGuard
  cases op <;> simp [g36]
theorem k_eqlR {a b : R} {q : Bool} (hx : ev N e x = .agg #[S a.1, S a.2]) (hy : ev N e y = .agg #[S b.1, S b.2]) (hq : decide (a = b) = q) (hk : K (act N (upd e d (.bool q)) ds) w) :
    Oper.wpIn (Fw r) n Tryz.prog ⟨some d, .binOp .eql 25 x y t', ty, pos, af, g⟩ (act N e ds) w K Q :=
  k_bin hx hy (guard36 ..) (by subst hq; simp [binOp, eq36]) hk
theorem k_neqR {a b : R} {q : Bool} (hx : ev N e x = .agg #[S a.1, S a.2]) (hy : ev N e y = .agg #[S b.1, S b.2]) (hq : (!decide (a = b)) = q) (hk : K (act N (upd e d (.bool q)) ds) w) :
    Oper.wpIn (Fw r) n Tryz.prog ⟨some d, .binOp .neq 25 x y t', ty, pos, af, g⟩ (act N e ds) w K Q :=
  k_bin hx hy (guard36 ..) (by subst hq; simp [binOp, eq36]) hk
end
theorem g1032 : Tryz.prog.eqGuardType Tryz.prog.depth 29 = false := by kernel_rfl
theorem st1032 : Tryz.prog.stoodInHeld 29 = false := by kernel_rfl
theorem eq36d (w : World) (a b : R) (d : Nat) : (Op.equalIn (d + 1 + 1) 25 (.agg #[S a.1, S a.2]) (.agg #[S b.1, S b.2])).run Tryz.prog w = .ok (decide (a = b)) w := by
  unfold Op.equalIn
  obtain ⟨a1, a2⟩ := a
  obtain ⟨b1, b2⟩ := b
  have p1 := part9 w #[S a1, S a2] 0 (S a1) rfl
  have p2 := part9 w #[S a1, S a2] 1 (S a2) rfl
  have p3 := part9 w #[S b1, S b2] 0 (S b1) rfl
  have p4 := part9 w #[S b1, S b2] 1 (S b2) rfl
  have e1 := eq9 w a1 b1 d
  have e2 := eq9 w a2 b2 d
  simp [run_underlying Tryz.underlying25, st36, p1, p2, p3, p4, e1, e2]
  by_cases h1 : a1 = b1 <;> by_cases h2 : a2 = b2 <;> simp [h1, h2]
abbrev Iv (x : R × R) : Value := .agg #[S x.1.1, S x.1.2, S x.2.1, S x.2.2]
section
variable {P : Program} {r : Option Nat} {n N : Nat} {e : Nat → Value} {ds : List Deferred} {w : World} {Q : Exit → Act → World → Prop} {K : Act → World → Prop}
variable {d ty : Nat} {pos : String} {af : Array Edge} {g : Option (Nat × Bool)} {v u : Value} {x y : Operand} {t t' : TypeId}
theorem k_field {fs : Array Field} {f : Field} {cs : List Value} {k off ft : Nat} {D : TypeDesc} (hu : P.underlying t = some (.struct fs)) (hf : fs[k]? = some f) (ho : f.offset = off) (hft : f.type = ft) (hD : P.underlying ft = some D) (hd : D.isRow = false)
    (hx : ev N e x = .agg cs.toArray) (hv : cs[off]? = some v) (hk : K (act N (upd e d v) ds) w) : Oper.wpIn (Fw r) n P ⟨some d, .field t x k, ty, pos, af, g⟩ (act N e ds) w K Q := by
  subst ho hft
  refine k_val (v := v) (w' := w) rfl ?_ (by rw [act_put]; exact hk)
  have hagg : (isAgg f.type).run P w = .ok false w := by
    unfold isAgg
    rw [Sem.run_bind, run_underlying hD w]
    cases D <;> simp_all
  have hv' : cs.toArray[f.offset]? = some v := by rw [List.getElem?_toArray]; exact hv
  simp [execOp, hx, Instr.field, run_underlying hu, hf, asAgg, part, hagg, hv]
end
end Go.Proofs.YtjijfnggomhpiaaGreatDoor
namespace Go.Proofs.YtjijfnggomhpiaaGreatDoor
open Go Go.Eng Go.RowKit
theorem part36a (w : World) (a b c d : List UInt8) : (part 25 #[S a, S b, S c, S d] 0).run Tryz.prog w = .ok (.agg #[S a, S b]) w := by
  unfold part
  simp [isAgg, run_underlying Tryz.underlying25]
theorem part36b (w : World) (a b c d : List UInt8) : (part 25 #[S a, S b, S c, S d] 2).run Tryz.prog w = .ok (.agg #[S c, S d]) w := by
  unfold part
  simp [isAgg, run_underlying Tryz.underlying25]
theorem eq1032 (w : World) (x y : R × R) : (Op.equal 29 (Iv x) (Iv y)).run Tryz.prog w = .ok (decide (x = y)) w := by
  unfold Op.equal Op.maxDepth
  show (Op.equalIn (9997 + 1 + 1 + 1) 29 _ _).run _ _ = _
  unfold Op.equalIn
  obtain ⟨⟨a1, a2⟩, a3, a4⟩ := x
  obtain ⟨⟨b1, b2⟩, b3, b4⟩ := y
  have p1 := part36a w a1 a2 a3 a4
  have p2 := part36b w a1 a2 a3 a4
  have p3 := part36a w b1 b2 b3 b4
  have p4 := part36b w b1 b2 b3 b4
  have e1 := eq36d w (a1, a2) (b1, b2) 9997
  have e2 := eq36d w (a3, a4) (b3, b4) 9997
  simp only [] at e1 e2
  simp [run_underlying Tryz.underlying29, st1032, p1, p2, p3, p4, e1, e2]
  by_cases h1 : a1 = b1 <;> by_cases h2 : a2 = b2 <;> by_cases h3 : a3 = b3 <;> by_cases h4 : a4 = b4 <;> simp [h1, h2, h3, h4]
section
variable {r : Option Nat} {n N : Nat} {e : Nat → Value} {ds : List Deferred} {w : World} {Q : Exit → Act → World → Prop} {K : Act → World → Prop}
variable {d ty : Nat} {pos : String} {af : Array Edge} {g : Option (Nat × Bool)} {v u : Value} {x y : Operand} {t t' : TypeId}
theorem guard1032 {op : BinOp} (x y : Operand) (a b : Array Value) : (eqGuard op 29 x y (.agg a) (.agg b)).run Tryz.prog w = .ok () w := by
  unfold eqGuard
  cases op <;> simp [g1032]
theorem k_eqlI {a b : R × R} {q : Bool} (hx : ev N e x = Iv a) (hy : ev N e y = Iv b) (hq : decide (a = b) = q) (hk : K (act N (upd e d (.bool q)) ds) w) :
    Oper.wpIn (Fw r) n Tryz.prog ⟨some d, .binOp .eql 29 x y t', ty, pos, af, g⟩ (act N e ds) w K Q :=
  k_bin hx hy (guard1032 ..) (by subst hq; simp [binOp, eq1032]) hk
theorem k_neqI {a b : R × R} {q : Bool} (hx : ev N e x = Iv a) (hy : ev N e y = Iv b) (hq : (!decide (a = b)) = q) (hk : K (act N (upd e d (.bool q)) ds) w) :
    Oper.wpIn (Fw r) n Tryz.prog ⟨some d, .binOp .neq 29 x y t', ty, pos, af, g⟩ (act N e ds) w K Q :=
  k_bin hx hy (guard1032 ..) (by subst hq; simp [binOp, eq1032]) hk
end
end Go.Proofs.YtjijfnggomhpiaaGreatDoor
namespace Go.Proofs.YtjijfnggomhpiaaGreatDoor
set_option maxRecDepth 100000
open Go Go.Eng Go.RowKit
attribute [local irreducible] wpListIn Code.wpIn Oper.wpIn Exit.then Exit.inBlock Exit.noGoto
set_option maxHeartbeats 40000000
theorem ofSub_ok {l m l' m' : List UInt8} {a b p n : Int} {w : World} (e1 : (l, m) = qR a b) (e2 : (l', m') = qR p n) (q1 : Q9 a b) (q2 : Q9 p n) (ht : Tb w) :
    Calls Tryz.prog 59 #[.func (.func 56) #[] #[], .agg #[S (l), S (m)], .agg #[S (l'), S (m')]] w (Ret w fun v w' => v = .agg #[S ((qR (a * n - p * b) (b * n)).1), S ((qR (a * n - p * b) (b * n)).2)]) := by
 refine f_in Tryz.func59 rfl ?_;refine go ?_;refine bx (fun aot aou sc => ?_);have r8 := aou.2;refine bx (fun aor aos aol => ?_);have sc := be aos.2 sc;have r8 := xt r8 aos.2;refine al inf36 (fun aow aoq aom => ?_);have sc := be aoq.2 sc;have aol := be aoq.2 aol;have r8 := xt r8 aoq.2;refine go ?_;refine l_op (clV (f := 56) (lb := []) (vs := [.agg #[S (l), S (m)], .agg #[S (l'), S (m')]]) en220 rfl rfl (qSubL e1 e2 q1 q2 (ht.ext r8)) ?_);rintro aox aoy aon rfl;have sc := be aon.2 sc;have aol := be aon.2 aol;have aom := be aon.2 aom;have r8 := xt r8 aon.2;refine go ?_;refine cl en1089 (must_ok) ?_;rintro aoz ao0 aoo rfl;have sc := be aoo.2 sc;have aol := be aoo.2 aol;have aom := be aoo.2 aom;have r8 := xt r8 aoo.2;refine SA aom (fun ao1 aop aov => ?_);have sc := pb aop sc;have aol := pb aop aol;have r8 := plw aop r8;have ao2 := psz aop;refine go ?_;refine f_out (v := .agg #[S ((qR (a * n - p * b) (b * n)).1), S ((qR (a * n - p * b) (b * n)).2)]) (res1  rfl ?_) r8 rfl;refine res_cellA (t := 6) (cs := [S ((qR (a * n - p * b) (b * n)).1), S ((qR (a * n - p * b) (b * n)).2)]) (b := aor.heap.size) (o := 0) U36 rfl sz36 ?_ ?_;exact rfl;exact Blk.cells aov (i := 0) rfl
theorem sub1_ok {b0 b1 b2 : Nat} {a b c d a' b' c' d' : Int} {x y : R × R} {w : World} (e1 : x.1 = qR a b) (e2 : x.2 = qR c d) (q1 : Q9 a b) (q2 : Q9 c d) (e3 : y.1 = qR a' b') (e4 : y.2 = qR c' d') (q3 : Q9 a' b') (q4 : Q9 c' d') (hb0 : Blk w b0 83 #[.func (.func 56) #[] #[]]) (hb1 : Blk w b1 29 #[S x.1.1, S x.1.2, S x.2.1, S x.2.2]) (hb2 : Blk w b2 29 #[S y.1.1, S y.1.2, S y.2.1, S y.2.2]) (ht : Tb w) :
    Calls Tryz.prog 60 #[.pointer (some ⟨b0, 0, none⟩), .pointer (some ⟨b1, 0, none⟩), .pointer (some ⟨b2, 0, none⟩)] w (Ret w fun v w' => v = .agg #[S ((qR (a * d' - c' * b) (b * d')).1), S ((qR (a * d' - c' * b) (b * d')).2), S ((qR (c * b' - a' * d) (d * b')).1), S ((qR (c * b' - a' * d) (d * b')).2)]) := by
 have zb0 := bt hb0;have zb1 := bt hb1;have zb2 := bt hb2;refine f_in Tryz.func60 rfl ?_;refine go ?_;refine al inf1032 (fun ao3 aoq r8 => ?_);have hb1 := be aoq.2 hb1;have hb0 := be aoq.2 hb0;have hb2 := be aoq.2 hb2;have sc := aoq.2;refine go ?_;refine c_an 11 ?_;refine sf ?_;refine sf_ae (V := .agg #[S ((qR (a * d' - c' * b) (b * d')).1), S ((qR (a * d' - c' * b) (b * d')).2)]) (fun apj apk aol apl => ?_) ?_;refine cl en1055 (ofSub_ok e1 e4 q1 q4 (ht.ext (xt sc aol))) ?_;rintro apm apn aom rfl;have ao1 := aom.2;refine go ?_;exact fs ⟨ao1, rfl⟩;refine sf ?_;intro ap4 ap5 aon ap6;have hb1 := be aon.2 hb1;have hb0 := be aon.2 hb0;have hb2 := be aon.2 hb2;have r8 := be aon.2 r8;have sc := xt sc aon.2;refine cl en1055 (ofSub_ok e2 e3 q2 q3 (ht.ext sc)) ?_;rintro ap7 ap8 aoo rfl;have hb1 := be aoo.2 hb1;have hb0 := be aoo.2 hb0;have hb2 := be aoo.2 hb2;have r8 := be aoo.2 r8;have sc := xt sc aoo.2;refine l_op (k_build (vs := [(0, .agg #[S ((qR (a * d' - c' * b) (b * d')).1), S ((qR (a * d' - c' * b) (b * d')).2)]), (1, .agg #[S ((qR (c * b' - a' * d) (d * b')).1), S ((qR (c * b' - a' * d) (d * b')).2)])]) (cells := #[S ((qR (a * d' - c' * b) (b * d')).1), S ((qR (a * d' - c' * b) (b * d')).2), S ((qR (c * b' - a' * d) (d * b')).1), S ((qR (c * b' - a' * d) (d * b')).2)]) (pl := [(0, 2), (2, 2)]) U1032 inf1032 (by kernel_rfl) rfl (by kernel_rfl) ?_);refine SA r8 (fun ap9 aop ao2 => ?_)
 have hb1 := pb aop hb1;have hb0 := pb aop hb0;have hb2 := pb aop hb2;have sc := plw aop sc;have aqa := psz aop;refine go ?_;refine f_out (v := .agg #[S ((qR (a * d' - c' * b) (b * d')).1), S ((qR (a * d' - c' * b) (b * d')).2), S ((qR (c * b' - a' * d) (d * b')).1), S ((qR (c * b' - a' * d) (d * b')).2)]) (res1  rfl ?_) sc rfl;refine res_cellA (t := 3) (cs := [S ((qR (a * d' - c' * b) (b * d')).1), S ((qR (a * d' - c' * b) (b * d')).2), S ((qR (c * b' - a' * d) (d * b')).1), S ((qR (c * b' - a' * d) (d * b')).2)]) (b := w.heap.size) (o := 0) U1032 rfl sz1032 ?_ ?_;exact rfl;exact Blk.cells ao2 (i := 0) rfl
theorem encSub_ok {a b c d a' b' c' d' : Int} {x y : R × R} {w : World} (hx : IvR x) (hy : IvR y) (e1 : x.1 = qR a b) (e2 : x.2 = qR c d) (q1 : Q9 a b) (q2 : Q9 c d) (e3 : y.1 = qR a' b') (e4 : y.2 = qR c' d') (q3 : Q9 a' b') (q4 : Q9 c' d') (ht : Tb w) :
    Calls Tryz.prog 20 #[.agg #[S (x.1.1), S (x.1.2), S (x.2.1), S (x.2.2)], .agg #[S (y.1.1), S (y.1.2), S (y.2.1), S (y.2.2)]] w (Ret w fun v w' => v = .tuple #[.agg #[S ((qR (a * d' - c' * b) (b * d')).1), S ((qR (a * d' - c' * b) (b * d')).2), S ((qR (c * b' - a' * d) (d * b')).1), S ((qR (c * b' - a' * d) (d * b')).2)], .int .i64 0]) := by
 refine f_in Tryz.func20 rfl ?_;refine go ?_;refine bx (fun aot aoy sc => ?_);have r8 := aoy.2;refine bx (fun aow aox aol => ?_);have sc := be aox.2 sc;have r8 := xt r8 aox.2;refine al inf1032 (fun aou aov aom => ?_);have sc := be aov.2 sc;have aol := be aov.2 aol;have r8 := xt r8 aov.2;refine go ?_;refine al inf1077 (fun ao3 aos aoz => ?_);have sc := be aos.2 sc;have aol := be aos.2 aol;have aom := be aos.2 aom;have r8 := xt r8 aos.2;refine SO aoz (fun ao0 aop aon => ?_);have sc := pb aop sc;have aol := pb aop aol;have aom := pb aop aom;have r8 := plw aop r8;have ao4 := psz aop;refine go ?_;refine l_op (k_makeFunc (vf := []) (vc := [.pointer (some ⟨aou.heap.size, 0, none⟩), .pointer (some ⟨w.heap.size, 0, none⟩), .pointer (some ⟨aot.heap.size, 0, none⟩)]) rfl rfl ?_);refine l_op (k_loadA (cs := [S (x.1.1), S (x.1.2), S (x.2.1), S (x.2.2)]) (b := w.heap.size) (o := 0) U1032 rfl sz1032 rfl (Blk.cells sc (i := 0) rfl) ?_);refine l_op (k_loadA (cs := [S (y.1.1), S (y.1.2), S (y.2.1), S (y.2.2)]) (b := aot.heap.size) (o := 0) U1032 rfl sz1032 rfl (Blk.cells aol (i := 0) rfl) ?_);refine BS2 (fun ao5 aoo ao6 ao1 => ?_);have sc := be aoo sc;have aol := be aoo aol;have aom := be aoo aom;have aon := be aoo aon;have r8 := xt r8 aoo;have ao7 := bz aoo;refine clb en1053 (hc := computeI_ok (l := [x, y]) (x := (qR (a * d' - c' * b) (b * d'), qR (c * b' - a' * d) (d * b'))) en1054 (Rw.of_own ao1) rfl (by simp) (fun z hz => by rcases List.mem_cons.1 hz with h | h; exact h ▸ hx; rw [List.mem_singleton.1 h]; exact hy) (fun W e => sub1_ok e1 e2 q1 q2 e3 e4 q3 q4 (aon.ext e) (sc.ext e) (aol.ext e) ((ht.ext r8).ext e)) (ht.ext r8)) (hk := ?_)
 rintro ao8 ao9 aoq rfl;have sc := be aoq.2 sc;have aol := be aoq.2 aol;have aom := be aoq.2 aom;have aon := be aoq.2 aon;have r8 := xt r8 aoq.2;refine go ?_;refine SA aom (fun apa aor ao2 => ?_);have sc := pb aor sc;have aol := pb aor aol;have aon := pb aor aon;have r8 := plw aor r8;have apb := psz aor;refine go ?_;refine f_out (v := .tuple #[.agg #[S ((qR (a * d' - c' * b) (b * d')).1), S ((qR (a * d' - c' * b) (b * d')).2), S ((qR (c * b' - a' * d) (d * b')).1), S ((qR (c * b' - a' * d) (d * b')).2)], .int .i64 (0)]) (res2 (r1 := .cell 4 29) (r2 := .tmp 5) rfl ?_ ?_) r8 rfl;refine res_cellA (t := 4) (cs := [S ((qR (a * d' - c' * b) (b * d')).1), S ((qR (a * d' - c' * b) (b * d')).2), S ((qR (c * b' - a' * d) (d * b')).1), S ((qR (c * b' - a' * d) (d * b')).2)]) (b := aow.heap.size) (o := 0) U1032 rfl sz1032 ?_ ?_;exact rfl;exact Blk.cells ao2 (i := 0) rfl;exact res_tmp (t := 5) (by exact rfl) _
end Go.Proofs.YtjijfnggomhpiaaGreatDoor
namespace Go.Proofs.YtjijfnggomhpiaaGreatDoor
set_option maxRecDepth 100000
open Go Go.Eng Go.RowKit
attribute [local irreducible] wpListIn Code.wpIn Oper.wpIn Exit.then Exit.inBlock Exit.noGoto
set_option maxHeartbeats 40000000
def yP (S n d : Nat) : N2 := byP (ofP S n d) 1 2
def tlL (S : Nat) (y : N2) : Nat → N2 → N2 → Option (N2 × N2)
  | 0, u, b => some (u, b)
  | 1, u, b => if bdB b = true then some (u, byP b 1 2) else none
  | a + 2, u, b => if bdB u = true ∧ bdB b = true then tlL S y a (tmP S u y) (byP b (a + 2) 2) else none
def oddP (S pl : Nat) (y : N2) (fr : Nat) (s e : N2) : Option (N2 × N2) :=
  if fr % 2 = 1 then (if bdB s = true then (rootP S y).bind fun u => (rootP S (piN pl, piN pl + 1)).bind fun c => if bdB u = true ∧ bdB c = true then some (tmP S s u, tmP S e c) else none else none) else some (s, e)
def tlP (S pl n d fr : Nat) : Option (Int × Int) :=
  if n < 10 ^ 90 ∧ d < 10 ^ 90 ∧ 0 < d ∧ bdB (ofP S n d) = true ∧ bdB (yP S n d) = true then
    (sumP (tlN S (yP S n d) fr) (1 * S, 1 * S)).bind fun s => (expP S (yP S n d)).bind fun e => (oddP S pl (yP S n d) fr s e).bind fun p => (tlL S (yP S n d) fr p.1 p.2).bind fun q =>
    if bdB q.1 = true ∧ bdB q.2 = true ∧ 0 < q.2.1 ∧ 0 < q.2.2 then some (miP (1 * S, 1 * S) (ovP S q.1 q.2)) else none
  else none
theorem tlP_inv {S pl n d fr : Nat} {r : Int × Int} (h : tlP S pl n d fr = some r) : n < 10 ^ 90 ∧ d < 10 ^ 90 ∧ 0 < d ∧ Bk 95 (ofP S n d) ∧ Bk 95 (yP S n d) ∧ ∃ s e p q,
    sumP (tlN S (yP S n d) fr) (1 * S, 1 * S) = some s ∧ expP S (yP S n d) = some e ∧ oddP S pl (yP S n d) fr s e = some p ∧ tlL S (yP S n d) fr p.1 p.2 = some q ∧ Bk 95 q.1 ∧ Bk 95 q.2 ∧ 0 < q.2.1 ∧ 0 < q.2.2 ∧ r = miP (1 * S, 1 * S) (ovP S q.1 q.2) := by
  unfold tlP at h
  split at h
  · rename_i h1
    refine ⟨h1.1, h1.2.1, h1.2.2.1, bdB_ok h1.2.2.2.1, bdB_ok h1.2.2.2.2, ?_⟩
    cases hs : sumP (tlN S (yP S n d) fr) (1 * S, 1 * S) with
    | none => rw [hs] at h; cases h
    | some s =>
      rw [hs, Option.bind_some] at h
      cases he : expP S (yP S n d) with
      | none => rw [he] at h; cases h
      | some e =>
        rw [he, Option.bind_some] at h
        cases hp : oddP S pl (yP S n d) fr s e with
        | none => rw [hp] at h; cases h
        | some p =>
          rw [hp, Option.bind_some] at h
          cases hq : tlL S (yP S n d) fr p.1 p.2 with
          | none => rw [hq] at h; cases h
          | some q =>
            rw [hq, Option.bind_some] at h
            split at h
            · rename_i h2; cases h; exact ⟨s, e, p, q, rfl, rfl, hp, hq, bdB_ok h2.1, bdB_ok h2.2.1, h2.2.2.1, h2.2.2.2, rfl⟩
            · cases h
  · cases h
theorem tlL_b {S a : Nat} {y u b : N2} {q : N2 × N2} (h0 : 0 < a) (h : tlL S y a u b = some q) : Bk 95 b := by
  match a, h0, h with
  | 1, _, h => unfold tlL at h; split at h; rename_i h1; exact bdB_ok h1; cases h
  | a + 2, _, h => unfold tlL at h; split at h; rename_i h1; exact bdB_ok h1.2; cases h
theorem tlL_u {S a : Nat} {y u b : N2} {q : N2 × N2} (h0 : 1 < a) (h : tlL S y a u b = some q) : Bk 95 u := by
  match a, h0, h with
  | a + 2, _, h => unfold tlL at h; split at h; rename_i h1; exact bdB_ok h1.1; cases h
def TlI (S : Nat) (y : N2) (a : Int) (u b : N2) (q : N2 × N2) : Prop := (0 ≤ a ∧ tlL S y a.toNat u b = some q) ∨ (a = -1 ∧ (u, b) = q)
theorem tlI_pos {S : Nat} {y u b : N2} {q : N2 × N2} {a : Int} (h : TlI S y a u b q) (h0 : 0 < a) : ∃ n : Nat, a = (n : Int) ∧ 0 < n ∧ tlL S y n u b = some q := by
  rcases h with h | h
  · exact ⟨a.toNat, by omega, by omega, h.2⟩
  · omega
theorem tlI_neg {S : Nat} {y u b : N2} {q : N2 × N2} {a : Int} (h : TlI S y a u b q) (h0 : ¬ 0 < a) : q = (u, b) := by
  rcases h with h | h
  · have e : a.toNat = 0 := by omega
    rw [e] at h
    have := h.2
    unfold tlL at this
    cases this; rfl
  · exact h.2.symm
theorem tlI_2 {S n : Nat} {y u b : N2} {q : N2 × N2} (h0 : 1 < n) (h : tlL S y n u b = some q) : TlI S y ((n : Int) - 2) (tmP S u y) (byP b n 2) q := by
  left
  obtain ⟨k, rfl⟩ : ∃ k, n = k + 2 := ⟨n - 2, by omega⟩
  refine ⟨by omega, ?_⟩
  rw [show (((k + 2 : Nat) : Int) - 2).toNat = k by omega]
  unfold tlL at h
  split at h
  · exact h
  · cases h
theorem tlI_1 {S n : Nat} {y u b : N2} {q : N2 × N2} (h0 : 0 < n) (h1 : ¬ 1 < n) (h : tlL S y n u b = some q) : TlI S y ((n : Int) - 2) u (byP b n 2) q := by
  right
  have e : n = 1 := by omega
  subst e
  refine ⟨by omega, ?_⟩
  unfold tlL at h
  split at h
  · cases h; rfl
  · cases h
theorem tlI_0 {S n : Nat} {y u b : N2} {q : N2 × N2} (h : tlL S y n u b = some q) : TlI S y (n : Int) u b q := Or.inl ⟨by omega, by simpa using h⟩
theorem odd_inv {S pl fr : Nat} {y s e : N2} {p : N2 × N2} (h : oddP S pl y fr s e = some p) : (fr % 2 = 1 ∧ ∃ u c, Bk 95 s ∧ rootP S y = some u ∧ rootP S (piN pl, piN pl + 1) = some c ∧ Bk 95 u ∧ Bk 95 c ∧ p = (tmP S s u, tmP S e c)) ∨ (¬ fr % 2 = 1 ∧ p = (s, e)) := by
  unfold oddP at h
  split at h
  · rename_i ho
    left
    refine ⟨ho, ?_⟩
    split at h
    · rename_i hs
      cases hu : rootP S y with
      | none => rw [hu] at h; cases h
      | some u =>
        rw [hu, Option.bind_some] at h
        cases hc : rootP S (piN pl, piN pl + 1) with
        | none => rw [hc] at h; cases h
        | some c =>
          rw [hc, Option.bind_some] at h
          split at h
          · rename_i h2; cases h; exact ⟨u, c, bdB_ok hs, rfl, rfl, bdB_ok h2.1, bdB_ok h2.2, rfl⟩
          · cases h
    · cases h
  · rename_i ho; cases h; exact Or.inr ⟨ho, rfl⟩
theorem tailO_ok {sO pl n d fr : Nat} {s e1 : N2} {q : N2 × N2} {w : World} (hS : Sc sO) (hp : pl < 81) (h1 : 0 < fr) (h20 : fr ≤ 20) (hn : n < 10 ^ 90) (hd : d < 10 ^ 90) (hd0 : 0 < d) (hof : Bk 95 (ofP sO n d)) (hy : Bk 95 (yP sO n d)) (hs : sumP (tlN sO (yP sO n d) fr) (1 * sO, 1 * sO) = some s) (he : expP sO (yP sO n d) = some e1) {u c : N2} (hsb : Bk 95 s) (hu : rootP sO (yP sO n d) = some u) (hc : rootP sO (piN pl, piN pl + 1) = some c) (hub : Bk 95 u) (hcb : Bk 95 c) (ho : fr % 2 = 1) (hq : tlL sO (yP sO n d) fr (tmP sO s u) (tmP sO e1 c) = some q) (hq1 : Bk 95 q.1) (hq2 : Bk 95 q.2) (hm1 : 0 < q.2.1) (hm2 : 0 < q.2.2) (ht : Tb w) :
    Calls Tryz.prog 43 #[.agg #[.int .i64 pl, S (nS sO)], .agg #[S ((qR (((n : Nat)) : Int) (((d : Nat)) : Int)).1), S ((qR (((n : Nat)) : Int) (((d : Nat)) : Int)).2)], .int .i64 fr] w (Ret w fun v w' => v = .agg #[S (showI ((miP (1 * sO, 1 * sO) (ovP sO q.1 q.2)).1)), S (showI ((miP (1 * sO, 1 * sO) (ovP sO q.1 q.2)).2))]) := by
 have heb := exp_bd he;obtain ⟨m, hR, hr⟩ := sumP_inv hs;have hov := ovP_bd (a := q.1) (b := q.2) hS hm1 hq1;have h1S : Bk 199 (1 * sO, 1 * sO) := by have := hS.lt; exact ⟨by simp only; omega, by simp only; omega⟩
 refine f_in Tryz.func43 rfl ?_;refine go ?_;refine bx (fun aqy aq3 r8 => ?_);have aop := aq3.2;refine bx (fun ap2 aqz sc => ?_);have r8 := be aqz.2 r8;have aop := xt aop aqz.2;refine bx (fun aqt aqu aol => ?_);have r8 := be aqu.2 r8;have sc := be aqu.2 sc;have aop := xt aop aqu.2;refine al inf1056 (fun aq4 aqp aom => ?_);have r8 := be aqp.2 r8;have sc := be aqp.2 sc;have aol := be aqp.2 aol;have aop := xt aop aqp.2;refine go ?_;refine c_an 6 ?_;refine sf ?_;refine sf_ae (V := .agg #[S (nS ((ofP sO (n) (d)).1)), S (nS ((ofP sO (n) (d)).2))]) (fun ar7 ar8 aqd ar9 => ?_) ?_;refine cl en1032 (spOfQ_ok (a := (n)) (b := (d)) hS hn hd hd0 (ht.ext (xt aop aqd))) ?_;rintro asa asb aqe rfl;have aq5 := aqe.2;refine go ?_;exact fs ⟨aq5, rfl⟩;refine sf_ae (V := .agg #[S (nS ((byP (ofP sO (n) (d)) 1 2).1)), S (nS ((byP (ofP sO (n) (d)) 1 2).2))]) (fun asc asd aqf ase => ?_) ?_;refine clb en1070 (hc := spBy_ok (hof.mono dc) dc dc dc (ht.ext (xt aop aqf))) (hk := ?_);rintro asf asg aqg rfl;have aq6 := aqg.2;refine go ?_;exact fs ⟨aq6, rfl⟩;refine sf_ah (fun v wz => ∃ b : Nat, v = .pointer (some ⟨b, 0, none⟩) ∧ aq4.heap.size ≤ b ∧ Blk wz b 72 #[S ([]), S ([])]) (hs := fun _ _ _ k ⟨b, e, l, h⟩ => ⟨b, e, l, h.ext k⟩) (fun ash asi aqh asj => ?_) ?_;refine al inf1056 (fun ask aqi aq7 => ?_);have aq8 := aqi.2;refine go ?_;exact fs ⟨aq8, ⟨_, rfl, (by have := bz aqh; omega), aq7⟩⟩;refine sf ?_
 intro asl asm aqj aq9;have r8 := be aqj.2 r8;have sc := be aqj.2 sc;have aol := be aqj.2 aol;have aom := be aqj.2 aom;have aop := xt aop aqj.2;obtain ⟨aos, aqk, aso, aq0⟩ := (aq9 5 7 rfl rfl);have asp := bt aq0;refine SA aq0 (fun ara ap3 aon => ?_);have r8 := pb ap3 r8;have sc := pb ap3 sc;have aol := pb ap3 aol;have aom := pb ap3 aom;have aop := plw ap3 aop;have asq := psz ap3;refine go ?_;have asr := bt aon;refine c_an 7 ?_;refine sf ?_;refine sf_ae (V := .agg #[S (nS ((1 * sO, 1 * sO).1)), S (nS ((1 * sO, 1 * sO).2))]) (fun asy asz ap4 as0 => ?_) ?_;refine clb en1030 (hc := spWhole_ok (n := 1) hS dc (by rw [Nat.one_mul]; exact hS.fi) (ht.ext (xt aop ap4))) (hk := ?_);rintro as1 as2 ap5 rfl;have arb := ap5.2;refine go ?_;exact fs ⟨arb, rfl⟩;refine sf_ap (fun as3 as4 aqn as5 => by refine l_op (k_makeFunc (vf := []) (vc := [.pointer (some ⟨w.heap.size, 0, none⟩), .pointer (some ⟨aos, 0, none⟩), .pointer (some ⟨ap2.heap.size, 0, none⟩)]) rfl (cons_eq rfl (cons_eq aqk (cons_eq rfl rfl))) ?_);refine go ?_;exact finp) ?_
 refine sf_ah (fun v wz => SeqV (1 * sO, 1 * sO) (.func (.func 96) #[] #[.pointer (some ⟨w.heap.size, 0, none⟩), .pointer (some ⟨aos, 0, none⟩), .pointer (some ⟨ap2.heap.size, 0, none⟩)]) wz v) (hs := fun _ _ _ k h => h.ext k) (fun as6 as7 aqo as8 => ?_) ?_;refine cl en1072 (terms_ok) ?_;rintro as9 ata ap6 hsq;have arc := ap6.2;refine go ?_;exact fs ⟨arc, hsq⟩;refine sf_ae (V := .agg #[S (nS s.1), S (nS s.2)]) (fun atb atc api ard => ?_) ?_;obtain ⟨arf, arh, ari, aqv, aqw⟩ := (ard 4 20 rfl rfl);have r8 := be api r8;have aol := be api aol;have aon := be api aon;refine clb en1071 (hc := cP (sum_ok hR hS aqv aqw en5096 (fun k hk W e => tl1_ok hS (r8.ext e) (aon.ext e) (aol.ext e) (hR.bd k om) hy om (by have := hR.lt; omega) om ((ht.ext (xt aop api)).ext e)) (ht.ext (xt aop api))) hr) (hk := ?_) (hv := cons_eq rfl (cons_eq ari rfl));rintro atd ate aot rfl;have arj := aot.2;refine go ?_;exact fs ⟨arj, rfl⟩;refine sf_ah (fun v wz => ∃ b : Nat, v = .pointer (some ⟨b, 0, none⟩) ∧ ara.heap.size ≤ b ∧ Blk wz b 72 #[S ([]), S ([])]) (hs := fun _ _ _ k ⟨b, e, l, h⟩ => ⟨b, e, l, h.ext k⟩) (fun atf atg ap7 ath => ?_) ?_;refine al inf1056 (fun ati ap8 ark => ?_);have arl := ap8.2;refine go ?_;exact fs ⟨arl, ⟨_, rfl, (by have := bz ap7; omega), ark⟩⟩;refine sf ?_;intro atj atk ap9 arm;have r8 := be ap9.2 r8;have sc := be ap9.2 sc;have aol := be ap9.2 aol;have aom := be ap9.2 aom;have aon := be ap9.2 aon;have aop := xt aop ap9.2
 obtain ⟨apj, aqa, atl, aq1⟩ := (arm 6 8 rfl rfl);have atm := bt aq1;refine SA aq1 (fun atn apk aoo => ?_);have r8 := pb apk r8;have sc := pb apk sc;have aol := pb apk aol;have aom := pb apk aom;have aon := pb apk aon;have aop := plw apk aop;have ato := psz apk;refine go ?_;refine cl en1031 (exp_ok hS he (ht.ext aop)) ?_;rintro atp apl apm rfl;have r8 := be apm.2 r8;have sc := be apm.2 sc;have aol := be apm.2 aol;have aom := be apm.2 aom;have aon := be apm.2 aon;have aoo := be apm.2 aoo;have aop := xt aop apm.2;refine al inf1056 (fun atq apn arn => ?_);have r8 := be apn.2 r8;have sc := be apn.2 sc;have aol := be apn.2 aol;have aom := be apn.2 aom;have aon := be apn.2 aon;have aoo := be apn.2 aoo;have aop := xt aop apn.2;refine SA arn (fun atr aou aoq => ?_);have r8 := pb aou r8;have sc := pb aou sc;have aol := pb aou aol;have aom := pb aou aom;have aon := pb aou aon;have aoo := pb aou aoo;have aop := plw aou aop;have att := psz aou;refine go ?_;refine l_op (k_rem (a := (fr : Int)) (b := 2) (c := (fr : Int) % 2) rfl rfl om om rfl ?_);refine go ?_;refine c_an 12 ?_;refine sf ?_;refine sf_ae (V := .agg #[S (nS u.1), S (nS u.2)]) (fun at7 at8 aov at9 => ?_) ?_
 refine cl en1103 (spRoot_ok hS hu (ht.ext (xt aop aov))) ?_;rintro aua aub aow rfl;have aro := aow.2;refine go ?_;exact fs ⟨aro, rfl⟩;refine sf_ae (V := .agg #[S (nS ((tmP sO s u).1)), S (nS ((tmP sO s u).2))]) (fun auc aud aox aue => ?_) ?_;refine cl en1074 (spTimes_ok hS hsb hub (ht.ext (xt aop aox))) ?_;rintro auf aug aoy rfl;have arp := aoy.2;refine go ?_;exact fs ⟨arp, rfl⟩;refine sf ?_;refine sf_ae (V := .agg #[S (nS ((piN pl, piN pl + 1).1)), S (nS ((piN pl, piN pl + 1).2))]) (fun aut auu aoz auv => ?_) ?_;refine cl en1104 (pi_ok hp (ht.ext (xt aop aoz))) ?_;rintro auw aux ao0 rfl;have arq := ao0.2;refine go ?_;exact fs ⟨arq, rfl⟩;refine sf_ae (V := .agg #[S (nS c.1), S (nS c.2)]) (fun auy auz ao1 au0 => ?_) ?_;refine cl en1103 (spRoot_ok hS hc (ht.ext (xt aop ao1))) ?_;rintro au1 au2 ao2 rfl;have arr := ao2.2;refine go ?_;exact fs ⟨arr, rfl⟩;refine sf ?_;intro au3 au4 ao3 au5;have r8 := be ao3.2 r8;have sc := be ao3.2 sc;have aol := be ao3.2 aol;have aom := be ao3.2 aom;have aon := be ao3.2 aon;have aoo := be ao3.2 aoo;have aoq := be ao3.2 aoq;have aop := xt aop ao3.2;refine cl en1074 (spTimes_ok hS heb hcb (ht.ext aop)) ?_;rintro au6 au7 ao4 rfl;have r8 := be ao4.2 r8;have sc := be ao4.2 sc;have aol := be ao4.2 aol;have aom := be ao4.2 aom;have aon := be ao4.2 aon;have aoo := be ao4.2 aoo;have aoq := be ao4.2 aoq;have aop := xt aop ao4.2;refine SA aoo (fun au8 ao5 aqx => ?_)
 have r8 := pb ao5 r8;have sc := pb ao5 sc;have aol := pb ao5 aol;have aom := pb ao5 aom;have aon := pb ao5 aon;have aoq := pb ao5 aoq;have aop := plw ao5 aop;have au9 := psz ao5;refine SA aoq (fun ars ao6 art => ?_);have r8 := pb ao6 r8;have sc := pb ao6 sc;have aol := pb ao6 aol;have aom := pb ao6 aom;have aon := pb ao6 aon;have aqx := pb ao6 aqx;have aop := plw ao6 aop;have ava := psz ao6;refine go ?_;refine c_lp [(10, 10), (42, 55)] (fun kk e W => ∃ aq : Int, ∃ uq : N2, ∃ bq : N2, ((aq + 2).toNat = kk) ∧ (e 10 = .int .i64 (aq)) ∧ (TlI sO (byP (ofP sO n d) 1 2) aq uq bq q) ∧ (aq ≤ (fr : Int)) ∧ (ars.heap.size ≤ W.heap.size) ∧ (Ext w W) ∧ (Blk W (w.heap.size) 70 #[.int .i64 pl, S (nS sO)]) ∧ (Blk W (aqy.heap.size) 25 #[S ((qR (((n : Nat)) : Int) (((d : Nat)) : Int)).1), S ((qR (((n : Nat)) : Int) (((d : Nat)) : Int)).2)]) ∧ (Blk W (ap2.heap.size) 3 #[.int .i64 fr]) ∧ (Blk W (aqt.heap.size) 72 #[S ([]), S ([])]) ∧ (Blk W (aos) 72 #[S (nS ((byP (ofP sO (n) (d)) 1 2).1)), S (nS ((byP (ofP sO (n) (d)) 1 2).2))]) ∧ (Blk W (apl.heap.size) 72 #[S (nS bq.1), S (nS bq.2)]) ∧ (Blk W (apj) 72 #[S (nS uq.1), S (nS uq.2)])) ((((fr : Int)) + 2).toNat) ⟨(fr : Int), tmP sO s u, tmP sO e1 c, rfl, rfl, (tlI_0 hq), (Int.le_refl _), (Nat.le_refl _), aop, r8, sc, aol, aom, aon, art, aqx⟩ ?_
 rintro avb avc avd ⟨aq, uq, bq, rfl, aqb, hab, haq, ave, aor, r8, sc, aol, aom, aon, hbo, hbu⟩;have avf := bz aor;by_cases hl : 0 < aq;obtain ⟨a, rfl, ha0, hta⟩ := tlI_pos hab hl;have hqb := tlL_b ha0 hta;have haf : a ≤ fr := by omega
 refine go ?_;refine clb en1070 (hc := spBy_ok (hqb.mono dc) om dc dc (ht.ext aor)) (hk := ?_);rintro avg avh ao7 rfl;have r8 := be ao7.2 r8;have sc := be ao7.2 sc;have aol := be ao7.2 aol;have aom := be ao7.2 aom;have aon := be ao7.2 aon;have hbo := be ao7.2 hbo;have hbu := be ao7.2 hbu;have aor := xt aor ao7.2;refine SA hbo (fun avi ao8 aqc => ?_);have r8 := pb ao8 r8;have sc := pb ao8 sc;have aol := pb ao8 aol;have aom := pb ao8 aom;have aon := pb ao8 aon;have hbu := pb ao8 hbu;have aor := plw ao8 aor;have avj := psz ao8;refine go ?_;by_cases aq2 : 1 < (((a : Nat)) : Int);refine go ?_;refine clb en1074 (hc := spTimes_ok hS (tlL_u om hta) hy (ht.ext aor)) (hk := ?_);rintro avk avl ao9 rfl;have r8 := be ao9.2 r8;have sc := be ao9.2 sc;have aol := be ao9.2 aol;have aom := be ao9.2 aom;have aon := be ao9.2 aon;have aqc := be ao9.2 aqc;have hbu := be ao9.2 hbu;have aor := xt aor ao9.2;refine SA hbu (fun avm apa aru => ?_);have r8 := pb apa r8;have sc := pb apa sc;have aol := pb apa aol;have aom := pb apa aom;have aon := pb apa aon;have aqc := pb apa aqc;have aor := plw apa aor;have avn := psz apa;refine go ?_;refine sui ?_;refine go ?_
 exact lend ⟨(((a : Nat)) : Int) - 2, tmP sO uq (byP (ofP sO n d) 1 2), byP bq a 2, rfl, rfl, (tlI_2 om hta), om, om, aor, r8, sc, aol, aom, aon, aqc, aru⟩;refine go ?_;refine sui ?_;refine go ?_;exact lend ⟨(((a : Nat)) : Int) - 2, uq, byP bq a 2, rfl, rfl, (tlI_1 ha0 om hta), om, om, aor, r8, sc, aol, aom, aon, aqc, hbu⟩;have hqe := tlI_neg hab hl;subst hqe;refine go ?_;refine c_an 7 ?_;refine sf ?_;refine sf_ae (V := .agg #[S (nS ((1 * sO, 1 * sO).1)), S (nS ((1 * sO, 1 * sO).2))]) (fun avu avv apb avw => ?_) ?_;refine clb en1030 (hc := spWhole_ok (n := 1) hS dc (by rw [Nat.one_mul]; exact hS.fi) (ht.ext (xt aor apb))) (hk := ?_);rintro avx avy apc rfl;have arv := apc.2;refine go ?_;exact fs ⟨arv, rfl⟩;refine sf ?_;refine sf_ae (V := .agg #[S (nS ((ovP sO uq bq).1)), S (nS ((ovP sO uq bq).2))]) (fun av8 av9 apd awa => ?_) ?_;refine clb en1029 (hc := spOver_ok hS hq1 (hq2.mono dc) hm1 hm2 (ht.ext (xt aor apd))) (hk := ?_);rintro awb awc ape rfl;have arw := ape.2;refine go ?_;exact fs ⟨arw, rfl⟩;refine sf ?_;intro awd awe apf awf;have r8 := be apf.2 r8;have sc := be apf.2 sc;have aol := be apf.2 aol;have aom := be apf.2 aom;have aon := be apf.2 aon;have hbo := be apf.2 hbo;have hbu := be apf.2 hbu;have aor := xt aor apf.2;refine clb en1094 (hc := spMinus_ok h1S (hov.mono dc) (ht.ext aor)) (hk := ?_);rintro awg awh apg rfl;have r8 := be apg.2 r8
 have sc := be apg.2 sc;have aol := be apg.2 aol;have aom := be apg.2 aom;have aon := be apg.2 aon;have hbo := be apg.2 hbo;have hbu := be apg.2 hbu;have aor := xt aor apg.2;refine SA aom (fun awi aph arx => ?_);have r8 := pb aph r8;have sc := pb aph sc;have aol := pb aph aol;have aon := pb aph aon;have hbo := pb aph hbo;have hbu := pb aph hbu;have aor := plw aph aor;have awj := psz aph;refine go ?_;refine f_out (v := .agg #[S (showI ((miP (1 * sO, 1 * sO) (ovP sO uq bq)).1)), S (showI ((miP (1 * sO, 1 * sO) (ovP sO uq bq)).2))]) (res1  rfl ?_) aor rfl;refine res_cellA (t := 6) (cs := [S (showI ((miP (1 * sO, 1 * sO) (ovP sO uq bq)).1)), S (showI ((miP (1 * sO, 1 * sO) (ovP sO uq bq)).2))]) (b := aqt.heap.size) (o := 0) U1056 rfl sz1056 ?_ ?_;exact rfl;exact Blk.cells arx (i := 0) rfl
theorem tailE_ok {sO pl n d fr : Nat} {s e1 : N2} {q : N2 × N2} {w : World} (hS : Sc sO) (hp : pl < 81) (h1 : 0 < fr) (h20 : fr ≤ 20) (hn : n < 10 ^ 90) (hd : d < 10 ^ 90) (hd0 : 0 < d) (hof : Bk 95 (ofP sO n d)) (hy : Bk 95 (yP sO n d)) (hs : sumP (tlN sO (yP sO n d) fr) (1 * sO, 1 * sO) = some s) (he : expP sO (yP sO n d) = some e1) (ho : ¬ fr % 2 = 1) (hq : tlL sO (yP sO n d) fr (s) (e1) = some q) (hq1 : Bk 95 q.1) (hq2 : Bk 95 q.2) (hm1 : 0 < q.2.1) (hm2 : 0 < q.2.2) (ht : Tb w) :
    Calls Tryz.prog 43 #[.agg #[.int .i64 pl, S (nS sO)], .agg #[S ((qR (((n : Nat)) : Int) (((d : Nat)) : Int)).1), S ((qR (((n : Nat)) : Int) (((d : Nat)) : Int)).2)], .int .i64 fr] w (Ret w fun v w' => v = .agg #[S (showI ((miP (1 * sO, 1 * sO) (ovP sO q.1 q.2)).1)), S (showI ((miP (1 * sO, 1 * sO) (ovP sO q.1 q.2)).2))]) := by
 have heb := exp_bd he;obtain ⟨m, hR, hr⟩ := sumP_inv hs;have hov := ovP_bd (a := q.1) (b := q.2) hS hm1 hq1;have h1S : Bk 199 (1 * sO, 1 * sO) := by have := hS.lt; exact ⟨by simp only; omega, by simp only; omega⟩
 refine f_in Tryz.func43 rfl ?_;refine go ?_;refine bx (fun aqc aqh r8 => ?_);have aoo := aqh.2;refine bx (fun ape aqd sc => ?_);have r8 := be aqd.2 r8;have aoo := xt aoo aqd.2;refine bx (fun ap8 ap9 aol => ?_);have r8 := be ap9.2 r8;have sc := be ap9.2 sc;have aoo := xt aoo ap9.2;refine al inf1056 (fun aqi ap2 aom => ?_);have r8 := be ap2.2 r8;have sc := be ap2.2 sc;have aol := be ap2.2 aol;have aoo := xt aoo ap2.2;refine go ?_;refine c_an 6 ?_;refine sf ?_;refine sf_ae (V := .agg #[S (nS ((ofP sO (n) (d)).1)), S (nS ((ofP sO (n) (d)).2))]) (fun arh ari apo arj => ?_) ?_;refine cl en1032 (spOfQ_ok (a := (n)) (b := (d)) hS hn hd hd0 (ht.ext (xt aoo apo))) ?_;rintro ark arl apq rfl;have aqj := apq.2;refine go ?_;exact fs ⟨aqj, rfl⟩;refine sf_ae (V := .agg #[S (nS ((byP (ofP sO (n) (d)) 1 2).1)), S (nS ((byP (ofP sO (n) (d)) 1 2).2))]) (fun arm arn apr aro => ?_) ?_;refine clb en1070 (hc := spBy_ok (hof.mono dc) dc dc dc (ht.ext (xt aoo apr))) (hk := ?_);rintro arp arq aps rfl;have aqk := aps.2;refine go ?_;exact fs ⟨aqk, rfl⟩;refine sf_ah (fun v wz => ∃ b : Nat, v = .pointer (some ⟨b, 0, none⟩) ∧ aqi.heap.size ≤ b ∧ Blk wz b 72 #[S ([]), S ([])]) (hs := fun _ _ _ k ⟨b, e, l, h⟩ => ⟨b, e, l, h.ext k⟩) (fun arr ars apt art => ?_) ?_;refine al inf1056 (fun aru apu aql => ?_);have aqm := apu.2;refine go ?_;exact fs ⟨aqm, ⟨_, rfl, (by have := bz apt; omega), aql⟩⟩;refine sf ?_
 intro arv arw apv aqn;have r8 := be apv.2 r8;have sc := be apv.2 sc;have aol := be apv.2 aol;have aom := be apv.2 aom;have aoo := xt aoo apv.2;obtain ⟨ao3, ap6, arx, aqe⟩ := (aqn 5 7 rfl rfl);have ary := bt aqe;refine SA aqe (fun aqo apf aon => ?_);have r8 := pb apf r8;have sc := pb apf sc;have aol := pb apf aol;have aom := pb apf aom;have aoo := plw apf aoo;have arz := psz apf;refine go ?_;have ar0 := bt aon;refine c_an 7 ?_;refine sf ?_;refine sf_ae (V := .agg #[S (nS ((1 * sO, 1 * sO).1)), S (nS ((1 * sO, 1 * sO).2))]) (fun ar7 ar8 apg ar9 => ?_) ?_;refine clb en1030 (hc := spWhole_ok (n := 1) hS dc (by rw [Nat.one_mul]; exact hS.fi) (ht.ext (xt aoo apg))) (hk := ?_);rintro asa asb aph rfl;have aqp := aph.2;refine go ?_;exact fs ⟨aqp, rfl⟩;refine sf_ap (fun asc asd apy ase => by refine l_op (k_makeFunc (vf := []) (vc := [.pointer (some ⟨w.heap.size, 0, none⟩), .pointer (some ⟨ao3, 0, none⟩), .pointer (some ⟨ape.heap.size, 0, none⟩)]) rfl (cons_eq rfl (cons_eq ap6 (cons_eq rfl rfl))) ?_);refine go ?_;exact finp) ?_
 refine sf_ah (fun v wz => SeqV (1 * sO, 1 * sO) (.func (.func 96) #[] #[.pointer (some ⟨w.heap.size, 0, none⟩), .pointer (some ⟨ao3, 0, none⟩), .pointer (some ⟨ape.heap.size, 0, none⟩)]) wz v) (hs := fun _ _ _ k h => h.ext k) (fun asf asg apz ash => ?_) ?_;refine cl en1072 (terms_ok) ?_;rintro asi asj api hsq;have aqq := api.2;refine go ?_;exact fs ⟨aqq, hsq⟩;refine sf_ae (V := .agg #[S (nS s.1), S (nS s.2)]) (fun ask asl ao4 aqr => ?_) ?_;obtain ⟨aqs, aqt, aqu, aqa, aqb⟩ := (aqr 4 20 rfl rfl);have r8 := be ao4 r8;have aol := be ao4 aol;have aon := be ao4 aon;refine clb en1071 (hc := cP (sum_ok hR hS aqa aqb en5096 (fun k hk W e => tl1_ok hS (r8.ext e) (aon.ext e) (aol.ext e) (hR.bd k om) hy om (by have := hR.lt; omega) om ((ht.ext (xt aoo ao4)).ext e)) (ht.ext (xt aoo ao4))) hr) (hk := ?_) (hv := cons_eq rfl (cons_eq aqu rfl));rintro asm aso aoq rfl;have aqv := aoq.2;refine go ?_;exact fs ⟨aqv, rfl⟩;refine sf_ah (fun v wz => ∃ b : Nat, v = .pointer (some ⟨b, 0, none⟩) ∧ aqo.heap.size ≤ b ∧ Blk wz b 72 #[S ([]), S ([])]) (hs := fun _ _ _ k ⟨b, e, l, h⟩ => ⟨b, e, l, h.ext k⟩) (fun asp asq apj asr => ?_) ?_;refine al inf1056 (fun ass apk aqw => ?_);have aqx := apk.2;refine go ?_;exact fs ⟨aqx, ⟨_, rfl, (by have := bz apj; omega), aqw⟩⟩;refine sf ?_;intro ast asu apl aqy;have r8 := be apl.2 r8;have sc := be apl.2 sc;have aol := be apl.2 aol;have aom := be apl.2 aom;have aon := be apl.2 aon;have aoo := xt aoo apl.2
 obtain ⟨ap0, ap7, asv, aqf⟩ := (aqy 6 8 rfl rfl);have asw := bt aqf;refine SA aqf (fun asx ao5 ao6 => ?_);have r8 := pb ao5 r8;have sc := pb ao5 sc;have aol := pb ao5 aol;have aom := pb ao5 aom;have aon := pb ao5 aon;have aoo := plw ao5 aoo;have asy := psz ao5;refine go ?_;refine cl en1031 (exp_ok hS he (ht.ext aoo)) ?_;rintro asz ap1 ao7 rfl;have r8 := be ao7.2 r8;have sc := be ao7.2 sc;have aol := be ao7.2 aol;have aom := be ao7.2 aom;have aon := be ao7.2 aon;have ao6 := be ao7.2 ao6;have aoo := xt aoo ao7.2;refine al inf1056 (fun as0 ao8 aqz => ?_);have r8 := be ao8.2 r8;have sc := be ao8.2 sc;have aol := be ao8.2 aol;have aom := be ao8.2 aom;have aon := be ao8.2 aon;have ao6 := be ao8.2 ao6;have aoo := xt aoo ao8.2;refine SA aqz (fun aq0 aor aq1 => ?_);have r8 := pb aor r8;have sc := pb aor sc;have aol := pb aor aol;have aom := pb aor aom;have aon := pb aor aon;have ao6 := pb aor ao6;have aoo := plw aor aoo;have as1 := psz aor;refine go ?_;refine l_op (k_rem (a := (fr : Int)) (b := 2) (c := (fr : Int) % 2) rfl rfl om om rfl ?_);refine go ?_;refine go ?_;refine c_lp [(10, 10), (42, 55)] (fun kk e W => ∃ aq : Int, ∃ uq : N2, ∃ bq : N2, ((aq + 2).toNat = kk) ∧ (e 10 = .int .i64 (aq)) ∧ (TlI sO (byP (ofP sO n d) 1 2) aq uq bq q) ∧ (aq ≤ (fr : Int)) ∧ (aq0.heap.size ≤ W.heap.size) ∧ (Ext w W) ∧ (Blk W (w.heap.size) 70 #[.int .i64 pl, S (nS sO)]) ∧ (Blk W (aqc.heap.size) 25 #[S ((qR (((n : Nat)) : Int) (((d : Nat)) : Int)).1), S ((qR (((n : Nat)) : Int) (((d : Nat)) : Int)).2)]) ∧ (Blk W (ape.heap.size) 3 #[.int .i64 fr]) ∧ (Blk W (ap8.heap.size) 72 #[S ([]), S ([])]) ∧ (Blk W (ao3) 72 #[S (nS ((byP (ofP sO (n) (d)) 1 2).1)), S (nS ((byP (ofP sO (n) (d)) 1 2).2))]) ∧ (Blk W (ap1.heap.size) 72 #[S (nS bq.1), S (nS bq.2)]) ∧ (Blk W (ap0) 72 #[S (nS uq.1), S (nS uq.2)])) ((((fr : Int)) + 2).toNat) ⟨(fr : Int), s, e1, rfl, rfl, (tlI_0 hq), (Int.le_refl _), (Nat.le_refl _), aoo, r8, sc, aol, aom, aon, aq1, ao6⟩ ?_
 rintro as2 as3 as4 ⟨aq, uq, bq, rfl, apm, hab, haq, as5, aop, r8, sc, aol, aom, aon, hbo, hbu⟩;have as6 := bz aop;by_cases hl : 0 < aq;obtain ⟨a, rfl, ha0, hta⟩ := tlI_pos hab hl;have hqb := tlL_b ha0 hta;have haf : a ≤ fr := by omega
 refine go ?_;refine clb en1070 (hc := spBy_ok (hqb.mono dc) om dc dc (ht.ext aop)) (hk := ?_);rintro as7 as8 aos rfl;have r8 := be aos.2 r8;have sc := be aos.2 sc;have aol := be aos.2 aol;have aom := be aos.2 aom;have aon := be aos.2 aon;have hbo := be aos.2 hbo;have hbu := be aos.2 hbu;have aop := xt aop aos.2;refine SA hbo (fun as9 aot apn => ?_);have r8 := pb aot r8;have sc := pb aot sc;have aol := pb aot aol;have aom := pb aot aom;have aon := pb aot aon;have hbu := pb aot hbu;have aop := plw aot aop;have ata := psz aot;refine go ?_;by_cases aqg : 1 < (((a : Nat)) : Int);refine go ?_;refine clb en1074 (hc := spTimes_ok hS (tlL_u om hta) hy (ht.ext aop)) (hk := ?_);rintro atb atc aou rfl;have r8 := be aou.2 r8;have sc := be aou.2 sc;have aol := be aou.2 aol;have aom := be aou.2 aom;have aon := be aou.2 aon;have apn := be aou.2 apn;have hbu := be aou.2 hbu;have aop := xt aop aou.2;refine SA hbu (fun atd aov aq2 => ?_);have r8 := pb aov r8;have sc := pb aov sc;have aol := pb aov aol;have aom := pb aov aom;have aon := pb aov aon;have apn := pb aov apn;have aop := plw aov aop;have ate := psz aov;refine go ?_;refine sui ?_;refine go ?_
 exact lend ⟨(((a : Nat)) : Int) - 2, tmP sO uq (byP (ofP sO n d) 1 2), byP bq a 2, rfl, rfl, (tlI_2 om hta), om, om, aop, r8, sc, aol, aom, aon, apn, aq2⟩;refine go ?_;refine sui ?_;refine go ?_;exact lend ⟨(((a : Nat)) : Int) - 2, uq, byP bq a 2, rfl, rfl, (tlI_1 ha0 om hta), om, om, aop, r8, sc, aol, aom, aon, apn, hbu⟩;have hqe := tlI_neg hab hl;subst hqe;refine go ?_;refine c_an 7 ?_;refine sf ?_;refine sf_ae (V := .agg #[S (nS ((1 * sO, 1 * sO).1)), S (nS ((1 * sO, 1 * sO).2))]) (fun atl atm aow atn => ?_) ?_;refine clb en1030 (hc := spWhole_ok (n := 1) hS dc (by rw [Nat.one_mul]; exact hS.fi) (ht.ext (xt aop aow))) (hk := ?_);rintro ato atp aox rfl;have aq3 := aox.2;refine go ?_;exact fs ⟨aq3, rfl⟩;refine sf ?_;refine sf_ae (V := .agg #[S (nS ((ovP sO uq bq).1)), S (nS ((ovP sO uq bq).2))]) (fun at0 at1 aoy at2 => ?_) ?_;refine clb en1029 (hc := spOver_ok hS hq1 (hq2.mono dc) hm1 hm2 (ht.ext (xt aop aoy))) (hk := ?_);rintro at3 at4 aoz rfl;have aq4 := aoz.2;refine go ?_;exact fs ⟨aq4, rfl⟩;refine sf ?_;intro at6 at7 ao0 at8;have r8 := be ao0.2 r8;have sc := be ao0.2 sc;have aol := be ao0.2 aol;have aom := be ao0.2 aom;have aon := be ao0.2 aon;have hbo := be ao0.2 hbo;have hbu := be ao0.2 hbu;have aop := xt aop ao0.2;refine clb en1094 (hc := spMinus_ok h1S (hov.mono dc) (ht.ext aop)) (hk := ?_);rintro at9 aua ao1 rfl;have r8 := be ao1.2 r8
 have sc := be ao1.2 sc;have aol := be ao1.2 aol;have aom := be ao1.2 aom;have aon := be ao1.2 aon;have hbo := be ao1.2 hbo;have hbu := be ao1.2 hbu;have aop := xt aop ao1.2;refine SA aom (fun aub ao2 aq5 => ?_);have r8 := pb ao2 r8;have sc := pb ao2 sc;have aol := pb ao2 aol;have aon := pb ao2 aon;have hbo := pb ao2 hbo;have hbu := pb ao2 hbu;have aop := plw ao2 aop;have auc := psz ao2;refine go ?_;refine f_out (v := .agg #[S (showI ((miP (1 * sO, 1 * sO) (ovP sO uq bq)).1)), S (showI ((miP (1 * sO, 1 * sO) (ovP sO uq bq)).2))]) (res1  rfl ?_) aop rfl;refine res_cellA (t := 6) (cs := [S (showI ((miP (1 * sO, 1 * sO) (ovP sO uq bq)).1)), S (showI ((miP (1 * sO, 1 * sO) (ovP sO uq bq)).2))]) (b := ap8.heap.size) (o := 0) U1056 rfl sz1056 ?_ ?_;exact rfl;exact Blk.cells aq5 (i := 0) rfl
theorem tail_ok {sO pl n d fr : Nat} {r : Int × Int} {w : World} (hS : Sc sO) (hp : pl < 81) (h1 : 0 < fr) (h20 : fr ≤ 20) (hh : tlP sO pl n d fr = some r) (ht : Tb w) :
    Calls Tryz.prog 43 #[.agg #[.int .i64 pl, S (nS sO)], .agg #[S ((qR (((n : Nat)) : Int) (((d : Nat)) : Int)).1), S ((qR (((n : Nat)) : Int) (((d : Nat)) : Int)).2)], .int .i64 fr] w (Ret w fun v _ => v = .agg #[S (showI r.1), S (showI r.2)]) := by
  obtain ⟨hn, hd, hd0, hof, hy, s, e1, p, q, hs, he, hpp, hq, hq1, hq2, hm1, hm2, rfl⟩ := tlP_inv hh
  rcases odd_inv hpp with ⟨ho, u, c, hsb, hu, hc, hub, hcb, rfl⟩ | ⟨ho, rfl⟩
  · exact tailO_ok hS hp h1 h20 hn hd hd0 hof hy hs he hsb hu hc hub hcb ho hq hq1 hq2 hm1 hm2 ht
  · exact tailE_ok hS hp h1 h20 hn hd hd0 hof hy hs he ho hq hq1 hq2 hm1 hm2 ht
end Go.Proofs.YtjijfnggomhpiaaGreatDoor
namespace Go.Proofs.YtjijfnggomhpiaaGreatDoor
set_option maxRecDepth 100000
open Go Go.Eng Go.RowKit
attribute [local irreducible] wpListIn Code.wpIn Oper.wpIn Exit.then Exit.inBlock Exit.noGoto
set_option maxHeartbeats 40000000
theorem showN_12 {n : Nat} (h : n < 10 ^ 12) : (showN n).length ≤ 12 := by
  unfold showN; split
  · simp
  · rw [showD_length]; exact (length_toB_le_iff 10 om n 12).2 h
theorem short_1 {l m : List UInt8} {a b : Int} (e : (l, m) = qR a b) (h : Q9 a b) (ha : a.natAbs < 10 ^ 12) : (((body l).length : Nat) : Int) ≤ 12 := by
  rw [show l = showI (redN a b) from congrArg Prod.fst e, body_showI]
  have := showN_12 (Nat.lt_of_le_of_lt (rq_abs h.2.1) ha)
  omega
theorem short_2 {l m : List UInt8} {a b : Int} (e : (l, m) = qR a b) (h : Q9 a b) (hb : b < 10 ^ 12) : ((m.length : Nat) : Int) ≤ 12 := by
  rw [show m = showI (redD a b) from congrArg Prod.snd e]
  have h1 := rq_pos (n := a) h.2.1
  have h2 := rq_le (n := a) h.2.1
  unfold showI
  rw [if_neg om]
  have := showN_12 (n := (redD a b).natAbs) om
  omega
def rightB (pl : Nat) (a b la lb ha hb : Int) : Bool := decide ((pl : Int) ≤ 12) && (decide (0 ≤ cmpI (a * lb) (la * b)) && decide (cmpI (a * hb) (ha * b) ≤ 0))
theorem isShort_ok {l m : List UInt8} {a b : Int} {w : World} (e : (l, m) = qR a b) (h : Q9 a b) (ha : a.natAbs < 10 ^ 12) (hb : b < 10 ^ 12) (ht : Tb w) :
    Calls Tryz.prog 107 #[.agg #[S (l), S (m)]] w (Ret w fun v w' => v = .bool true) := by
 have h1 := short_1 e h ha;have h2 := short_2 e h hb;refine f_in Tryz.func107 rfl ?_;refine go ?_;refine bx (fun aoo aon r8 => ?_);have sc := aon.2;refine go ?_;refine cl en82 (cB (rValid_ok _ _ _ (ht.ext sc)) (okL e h)) ?_;rintro aop aoq aol rfl;have r8 := be aol.2 r8;have sc := xt sc aol.2;refine go ?_;refine cl en136 (body_ok _ _) ?_;rintro aor aos aom rfl;have r8 := be aom.2 r8;have sc := xt sc aom.2;refine go ?_;refine l_op (k_lenL (l := body l) U9 rfl ?_);refine go ?_;refine l_op (k_lenL (l := m) U9 rfl ?_);refine go ?_;exact f_ret1 (t := 2) (v := .bool (decide ((((m).length : Nat) : Int) ≤ 12))) rfl sc (congrArg Value.bool (decide_eq_true h2)) rfl
theorem isRight_ok {l m l1 m1 l2 m2 l3 m3 l4 m4 : List UInt8} {fu : Value} {a b la lb ha hb : Int} {pl : Nat} {w : World} (e : (l, m) = qR a b) (h : Q9 a b) (ha12 : a.natAbs < 10 ^ 12) (hb12 : b < 10 ^ 12) (e1 : (l1, m1) = qR la lb) (q1 : Q9 la lb) (e2 : (l2, m2) = qR ha hb) (q2 : Q9 ha hb) (hu : fu.cells = #[fu]) (ht : Tb w) :
    Calls Tryz.prog 53 #[.agg #[S (l1), S (m1), S (l2), S (m2), S (l3), S (m3), S (l4), S (m4), fu], .agg #[S (l), S (m)], .int .i64 pl] w (Ret w fun v w' => v = .bool (rightB pl a b la lb ha hb)) := by
 refine f_in Tryz.func53 rfl ?_;refine go ?_;refine bx (fun aop aox aom => ?_);have r8 := aox.2;refine bx (fun aoy aow aol => ?_);have aom := be aow.2 aom;have r8 := xt r8 aow.2;refine go ?_;by_cases aoo : 0 ≤ (pl : Int);by_cases sc : (pl : Int) ≤ 12;by_cases aon : 0 ≤ (cmpI (a * lb) (la * b));refine go ?_;refine cl en1086 (isShort_ok e h ha12 hb12 (ht.ext r8)) ?_;rintro aoz ao0 aoq rfl;have aom := be aoq.2 aom;have aol := be aoq.2 aol;have r8 := xt r8 aoq.2;refine go ?_;refine cl en49 (qCmpL e e1 h q1 (ht.ext r8)) ?_;rintro ao1 ao2 aor rfl;have aom := be aor.2 aom;have aol := be aor.2 aol;have r8 := xt r8 aor.2;refine go ?_;refine cl en49 (qCmpL e e2 h q2 (ht.ext r8)) ?_;rintro ao3 ao4 aos rfl;have r8 := xt r8 aos.2;refine go ?_;exact f_ret1 (t := 6) (v := .bool (decide ((cmpI (a * hb) (ha * b)) ≤ 0))) rfl r8 (by unfold rightB; rw [decide_eq_true sc]; rw [decide_eq_true aon]; first | rfl | simp) rfl;refine go ?_;refine cl en1086 (isShort_ok e h ha12 hb12 (ht.ext r8)) ?_;rintro ao5 ao6 aot rfl;have aom := be aot.2 aom;have aol := be aot.2 aol;have r8 := xt r8 aot.2;refine go ?_;refine cl en49 (qCmpL e e1 h q1 (ht.ext r8)) ?_;rintro ao7 ao8 aou rfl;have r8 := xt r8 aou.2;refine go ?_;exact f_ret1 (t := 6) (v := .bool (false)) rfl r8 (by unfold rightB; rw [decide_eq_true sc]; rw [decide_eq_false aon]; first | rfl | simp) rfl;refine go ?_;refine cl en1086 (isShort_ok e h ha12 hb12 (ht.ext r8)) ?_
 rintro ao9 apa aov rfl;have r8 := xt r8 aov.2;refine go ?_;exact f_ret1 (t := 6) (v := .bool (false)) rfl r8 (by unfold rightB; rw [decide_eq_false sc]; first | rfl | simp) rfl;omega
end Go.Proofs.YtjijfnggomhpiaaGreatDoor
