/- Part of the proof of a statement about the special functions. -/
import Derived.Test.YtjijfnggomhpiaaGreatDoorRat2ToSp3
import Derived.Test.YtjijfnggomhpiaaGreatDoorEngGToInt1
import Derived.Test.YtjijfnggomhpiaaGreatDoorInt11ToRat1
set_option linter.all false
namespace Go.Proofs.YtjijfnggomhpiaaGreatDoor
set_option maxRecDepth 100000
open Go Go.Eng Go.RowKit
attribute [local irreducible] wpListIn Code.wpIn Oper.wpIn Exit.then Exit.inBlock Exit.noGoto
set_option maxHeartbeats 40000000
theorem cP {f : FuncId} {a : Array Value} {w : World} {p q : N2} (h : Calls Tryz.prog f a w (Ret w fun v _ => v = .agg #[S (nS p.1), S (nS p.2)])) (e : p = q) : Calls Tryz.prog f a w (Ret w fun v _ => v = .agg #[S (nS q.1), S (nS q.2)]) := e ▸ h
theorem cmp_gt0 {a b : Nat} (h : b < a) : 0 < cmpI (a : Int) (b : Int) := by rw [cmpI_gt om]; decide
theorem cmp_gt1 {a b : Nat} (h : ¬ b < a) : ¬ 0 < cmpI (a : Int) (b : Int) := by have := (cmpI_nonpos (x := (a : Int)) (y := (b : Int))).2 om; omega
theorem exp1_ok {sO pl n b1 b2 : Nat} {t x : N2} {w : World} (hS : Sc sO) (hb1 : Blk w b1 70 #[.int .i64 pl, S (nS sO)]) (hb2 : Blk w b2 72 #[S (nS x.1), S (nS x.2)]) (htb : Bk 95 t) (hx : Bk 95 x) (h0 : 0 < n) (hn : n < 100000) (ht : Tb w) :
    Calls Tryz.prog 103 #[.agg #[S (nS t.1), S (nS t.2)], .int .i64 n, .pointer (some ⟨b1, 0, none⟩), .pointer (some ⟨b2, 0, none⟩)] w (Ret w fun v w' => v = .agg #[S (nS ((expN sO x n t).1)), S (nS ((expN sO x n t).2))]) := by
 have zb1 := bt hb1;have zb2 := bt hb2;refine f_in Tryz.func103 rfl ?_;refine go ?_;refine bx (fun aoy aox r8 => ?_);have hb1 := be aox.2 hb1;have hb2 := be aox.2 hb2;have aol := aox.2;refine al inf1056 (fun ao1 aor sc => ?_);have hb1 := be aor.2 hb1;have hb2 := be aor.2 hb2;have r8 := be aor.2 r8;have aol := xt aol aor.2;refine go ?_;refine c_an 6 ?_;refine sf ?_;refine sf_ae (V := .agg #[S (nS ((tmP sO t x).1)), S (nS ((tmP sO t x).2))]) (fun ape apf aom apg => ?_) ?_;refine cl en1074 (spTimes_ok hS htb hx (ht.ext (xt aol aom))) ?_;rintro aph api aon rfl;have aoz := aon.2;refine go ?_;exact fs ⟨aoz, rfl⟩;refine sf ?_;intro apm apn aoo apo;have hb1 := be aoo.2 hb1;have hb2 := be aoo.2 hb2;have r8 := be aoo.2 r8;have sc := be aoo.2 sc;have aol := xt aol aoo.2;refine clb en1070 (hc := spBy_ok (tmP_bd hS.pos htb hx) dc om om (ht.ext aol)) (hk := ?_);rintro apq apr aop rfl;have hb1 := be aop.2 hb1;have hb2 := be aop.2 hb2;have r8 := be aop.2 r8;have sc := be aop.2 sc;have aol := xt aol aop.2;refine SA sc (fun aps aoq ao0 => ?_);have hb1 := pb aoq hb1;have hb2 := pb aoq hb2;have r8 := pb aoq r8;have aol := plw aoq aol;have apt := psz aoq;refine go ?_;refine f_out (v := .agg #[S (nS ((byP (tmP sO t x) 1 (n)).1)), S (nS ((byP (tmP sO t x) 1 (n)).2))]) (res1  rfl ?_) aol rfl;refine res_cellA (t := 6) (cs := [S (nS ((byP (tmP sO t x) 1 (n)).1)), S (nS ((byP (tmP sO t x) 1 (n)).2))]) (b := aoy.heap.size) (o := 0) U1056 rfl sz1056 ?_ ?_
 exact rfl;exact Blk.cells ao0 (i := 0) rfl
theorem art1_ok {sO pl n b1 b2 : Nat} {t x : N2} {w : World} (hS : Sc sO) (hb1 : Blk w b1 70 #[.int .i64 pl, S (nS sO)]) (hb2 : Blk w b2 72 #[S (nS x.1), S (nS x.2)]) (htb : Bk 95 t) (hx : Bk 95 x) (h0 : 0 < n) (hn : n < 100000) (ht : Tb w) :
    Calls Tryz.prog 151 #[.agg #[S (nS t.1), S (nS t.2)], .int .i64 n, .pointer (some ⟨b1, 0, none⟩), .pointer (some ⟨b2, 0, none⟩)] w (Ret w fun v w' => v = .agg #[S (nS ((artN sO x n t).1)), S (nS ((artN sO x n t).2))]) := by
 have zb1 := bt hb1;have zb2 := bt hb2;refine f_in Tryz.func151 rfl ?_;refine go ?_;refine bx (fun ao3 ao2 r8 => ?_);have hb1 := be ao2.2 hb1;have hb2 := be ao2.2 hb2;have aol := ao2.2;refine al inf1056 (fun ao6 aor sc => ?_);have hb1 := be aor.2 hb1;have hb2 := be aor.2 hb2;have r8 := be aor.2 r8;have aol := xt aol aor.2;refine go ?_;refine c_an 11 ?_;refine sf ?_;refine sf_ae (V := .agg #[S (nS ((tmP sO t x).1)), S (nS ((tmP sO t x).2))]) (fun apj apk aom apl => ?_) ?_;refine cl en1074 (spTimes_ok hS htb hx (ht.ext (xt aol aom))) ?_;rintro apm apn aon rfl;have ao4 := aon.2;refine go ?_;exact fs ⟨ao4, rfl⟩;refine sf ?_;refine sf_ap (fun aps apt aox apu => by refine l_op (k_mul (a := 2) (b := (n : Int)) (c := ((2 * n : Nat) : Int)) rfl rfl (by unfold In64; omega) om ?_);refine go ?_;exact finp) ?_
 refine sf_ap (fun apv apw aoy apx => by refine l_op (k_sub (a := ((2 * n : Nat) : Int)) (b := 1) (c := ((2 * n - 1 : Nat) : Int)) rfl rfl (by unfold In64; omega) om ?_);refine go ?_;exact finp) ?_
 refine sf ?_;refine sf_ap (fun ap1 ap2 ao0 ap3 => by refine l_op (k_mul (a := 2) (b := (n : Int)) (c := ((2 * n : Nat) : Int)) rfl rfl (by unfold In64; omega) om ?_);refine go ?_;exact finp) ?_
 refine sf_ap (fun ap4 ap5 ao1 ap6 => by refine l_op (k_add (a := ((2 * n : Nat) : Int)) (b := 1) (c := ((2 * n + 1 : Nat) : Int)) rfl rfl (by unfold In64; omega) om ?_);refine go ?_;exact finp) ?_
 refine sf ?_;intro ap7 ap8 aoo ap9;have hb1 := be aoo.2 hb1;have hb2 := be aoo.2 hb2;have r8 := be aoo.2 r8;have sc := be aoo.2 sc;have aol := xt aol aoo.2;refine clb en1070 (hc := spBy_ok (tmP_bd hS.pos htb hx) om om om (ht.ext aol)) (hk := ?_);rintro aqa aqb aop rfl;have hb1 := be aop.2 hb1;have hb2 := be aop.2 hb2;have r8 := be aop.2 r8;have sc := be aop.2 sc;have aol := xt aol aop.2;refine SA sc (fun aqc aoq ao5 => ?_);have hb1 := pb aoq hb1;have hb2 := pb aoq hb2;have r8 := pb aoq r8;have aol := plw aoq aol;have aqd := psz aoq;refine go ?_;refine f_out (v := .agg #[S (nS ((byP (tmP sO t x) (2 * n - 1) (2 * n + 1)).1)), S (nS ((byP (tmP sO t x) (2 * n - 1) (2 * n + 1)).2))]) (res1  rfl ?_) aol rfl;refine res_cellA (t := 6) (cs := [S (nS ((byP (tmP sO t x) (2 * n - 1) (2 * n + 1)).1)), S (nS ((byP (tmP sO t x) (2 * n - 1) (2 * n + 1)).2))]) (b := ao3.heap.size) (o := 0) U1056 rfl sz1056 ?_ ?_;exact rfl;exact Blk.cells ao5 (i := 0) rfl
theorem hn1_ok {sO pl n b1 b2 : Nat} {t x : N2} {w : World} (hS : Sc sO) (hb1 : Blk w b1 70 #[.int .i64 pl, S (nS sO)]) (hb2 : Blk w b2 72 #[S (nS x.1), S (nS x.2)]) (htb : Bk 95 t) (hx : Bk 95 x) (h0 : 0 < n) (hn : n < 100000) (ht : Tb w) :
    Calls Tryz.prog 144 #[.agg #[S (nS t.1), S (nS t.2)], .int .i64 n, .pointer (some ⟨b1, 0, none⟩), .pointer (some ⟨b2, 0, none⟩)] w (Ret w fun v w' => v = .agg #[S (nS ((hnN sO x n t).1)), S (nS ((hnN sO x n t).2))]) := by
 have zb1 := bt hb1;have zb2 := bt hb2;refine f_in Tryz.func144 rfl ?_;refine go ?_;refine bx (fun ao0 aoz r8 => ?_);have hb1 := be aoz.2 hb1;have hb2 := be aoz.2 hb2;have aol := aoz.2;refine al inf1056 (fun ao3 aor sc => ?_);have hb1 := be aor.2 hb1;have hb2 := be aor.2 hb2;have r8 := be aor.2 r8;have aol := xt aol aor.2;refine go ?_;refine c_an 8 ?_;refine sf ?_;refine sf_ae (V := .agg #[S (nS ((tmP sO t x).1)), S (nS ((tmP sO t x).2))]) (fun apg aph aom api => ?_) ?_;refine cl en1074 (spTimes_ok hS htb hx (ht.ext (xt aol aom))) ?_;rintro apj apk aon rfl;have ao1 := aon.2;refine go ?_;exact fs ⟨ao1, rfl⟩;refine sf ?_;refine sf_ap (fun apo apq aox apr => by refine l_op (k_mul (a := 2) (b := (n : Int)) (c := ((2 * n : Nat) : Int)) rfl rfl (by unfold In64; omega) om ?_);refine go ?_;exact finp) ?_
 refine sf_ap (fun aps apt aoy apu => by refine l_op (k_add (a := ((2 * n : Nat) : Int)) (b := 1) (c := ((2 * n + 1 : Nat) : Int)) rfl rfl (by unfold In64; omega) om ?_);refine go ?_;exact finp) ?_
 refine sf ?_;intro apv apw aoo apx;have hb1 := be aoo.2 hb1;have hb2 := be aoo.2 hb2;have r8 := be aoo.2 r8;have sc := be aoo.2 sc;have aol := xt aol aoo.2;refine clb en1070 (hc := spBy_ok (tmP_bd hS.pos htb hx) dc om om (ht.ext aol)) (hk := ?_);rintro apy apz aop rfl;have hb1 := be aop.2 hb1;have hb2 := be aop.2 hb2;have r8 := be aop.2 r8;have sc := be aop.2 sc;have aol := xt aol aop.2;refine SA sc (fun ap0 aoq ao2 => ?_);have hb1 := pb aoq hb1;have hb2 := pb aoq hb2;have r8 := pb aoq r8;have aol := plw aoq aol;have ap1 := psz aoq;refine go ?_;refine f_out (v := .agg #[S (nS ((byP (tmP sO t x) 1 (2 * n + 1)).1)), S (nS ((byP (tmP sO t x) 1 (2 * n + 1)).2))]) (res1  rfl ?_) aol rfl;refine res_cellA (t := 6) (cs := [S (nS ((byP (tmP sO t x) 1 (2 * n + 1)).1)), S (nS ((byP (tmP sO t x) 1 (2 * n + 1)).2))]) (b := ao0.heap.size) (o := 0) U1056 rfl sz1056 ?_ ?_;exact rfl;exact Blk.cells ao2 (i := 0) rfl
theorem tl1_ok {sO pl n b1 b2 b3 fr : Nat} {t x : N2} {w : World} (hS : Sc sO) (hb1 : Blk w b1 70 #[.int .i64 pl, S (nS sO)]) (hb2 : Blk w b2 72 #[S (nS x.1), S (nS x.2)]) (hb3 : Blk w b3 3 #[.int .i64 fr]) (htb : Bk 95 t) (hx : Bk 95 x) (h0 : 0 < n) (hn : n < 100000) (hf : fr < 100000) (ht : Tb w) :
    Calls Tryz.prog 96 #[.agg #[S (nS t.1), S (nS t.2)], .int .i64 n, .pointer (some ⟨b1, 0, none⟩), .pointer (some ⟨b2, 0, none⟩), .pointer (some ⟨b3, 0, none⟩)] w (Ret w fun v w' => v = .agg #[S (nS ((tlN sO x fr n t).1)), S (nS ((tlN sO x fr n t).2))]) := by
 have zb1 := bt hb1;have zb2 := bt hb2;have zb3 := bt hb3;refine f_in Tryz.func96 rfl ?_;refine go ?_;refine bx (fun ao1 ao0 r8 => ?_);have hb1 := be ao0.2 hb1;have hb2 := be ao0.2 hb2;have hb3 := be ao0.2 hb3;have aol := ao0.2;refine al inf1056 (fun ao4 aor sc => ?_);have hb1 := be aor.2 hb1;have hb2 := be aor.2 hb2;have hb3 := be aor.2 hb3;have r8 := be aor.2 r8;have aol := xt aol aor.2;refine go ?_;refine c_an 9 ?_;refine sf ?_;refine sf_ae (V := .agg #[S (nS ((tmP sO t x).1)), S (nS ((tmP sO t x).2))]) (fun aph api aom apj => ?_) ?_;refine cl en1074 (spTimes_ok hS htb hx (ht.ext (xt aol aom))) ?_;rintro apk apl aon rfl;have ao2 := aon.2;refine go ?_;exact fs ⟨ao2, rfl⟩;refine sf ?_;refine sf_ap (fun apt apu aoy apv => by refine l_op (k_mul (a := 2) (b := (n : Int)) (c := ((2 * n : Nat) : Int)) rfl rfl (by unfold In64; omega) om ?_);refine go ?_;exact finp) ?_
 refine sf_ap (fun apw apx aoz apy => by refine l_op (k_add (a := (fr : Int)) (b := ((2 * n : Nat) : Int)) (c := ((fr + 2 * n : Nat) : Int)) rfl rfl (by unfold In64; omega) om ?_);refine go ?_;exact finp) ?_
 refine sf ?_;intro apz ap0 aoo ap1;have hb1 := be aoo.2 hb1;have hb2 := be aoo.2 hb2;have hb3 := be aoo.2 hb3;have r8 := be aoo.2 r8;have sc := be aoo.2 sc;have aol := xt aol aoo.2;refine clb en1070 (hc := spBy_ok (tmP_bd hS.pos htb hx) dc om om (ht.ext aol)) (hk := ?_);rintro ap2 ap3 aop rfl;have hb1 := be aop.2 hb1;have hb2 := be aop.2 hb2;have hb3 := be aop.2 hb3;have r8 := be aop.2 r8;have sc := be aop.2 sc;have aol := xt aol aop.2;refine SA sc (fun ap4 aoq ao3 => ?_);have hb1 := pb aoq hb1;have hb2 := pb aoq hb2;have hb3 := pb aoq hb3;have r8 := pb aoq r8;have aol := plw aoq aol;have ap5 := psz aoq;refine go ?_;refine f_out (v := .agg #[S (nS ((byP (tmP sO t x) 2 (fr + 2 * n)).1)), S (nS ((byP (tmP sO t x) 2 (fr + 2 * n)).2))]) (res1  rfl ?_) aol rfl;refine res_cellA (t := 7) (cs := [S (nS ((byP (tmP sO t x) 2 (fr + 2 * n)).1)), S (nS ((byP (tmP sO t x) 2 (fr + 2 * n)).2))]) (b := ao1.heap.size) (o := 0) U1056 rfl sz1056 ?_ ?_;exact rfl;exact Blk.cells ao3 (i := 0) rfl
end Go.Proofs.YtjijfnggomhpiaaGreatDoor
namespace Go.Proofs.YtjijfnggomhpiaaGreatDoor
open Go Go.Eng Go.RowKit
attribute [local irreducible] wpListIn Code.wpIn Oper.wpIn Exit.then Exit.inBlock Exit.noGoto
set_option maxHeartbeats 40000000
theorem half_le {S : Nat} : ∀ {f h : Nat} {x : N2} {p : N2 × Nat}, halfF S f x h = some p → p.2 ≤ h + f
  | 0, _, _, _, e => by simp [halfF] at e
  | f + 1, h, x, p, e => by
    unfold halfF at e
    split at e
    · have := half_le e; omega
    · cases e; simp
set_option maxRecDepth 100000 in
theorem exp_ok {sO pl : Nat} {x r : N2} {w : World} (hS : Sc sO) (he : expP sO x = some r) (ht : Tb w) :
    Calls Tryz.prog 49 #[.agg #[.int .i64 pl, S (nS sO)], .agg #[S (nS x.1), S (nS x.2)]] w (Ret w fun v w' => v = .agg #[S (nS r.1), S (nS r.2)]) := by
 obtain ⟨hx, p, s, hp, hs, hq⟩ := exp_inv he;have hp2 := half_le hp;refine f_in Tryz.func49 rfl ?_;refine go ?_;refine bx (fun aom apz r8 => ?_);have aoq := apz.2;refine bx (fun aox apw ape => ?_);have r8 := be apw.2 r8;have aoq := xt aoq apw.2;refine al inf1056 (fun ap0 apf sc => ?_);have r8 := be apf.2 r8;have ape := be apf.2 ape;have aoq := xt aoq apf.2;refine go ?_;refine c_lp [(5, 5), (7, 18)] (fun kk e W => ∃ f : Nat, ∃ y : N2, ∃ h : Nat, (f = kk) ∧ (e 5 = .int .i64 h) ∧ (halfF sO f y h = some p) ∧ (Bk 95 y) ∧ (h + f ≤ 200) ∧ (ap0.heap.size ≤ W.heap.size) ∧ (Ext w W) ∧ (Blk W (w.heap.size) 70 #[.int .i64 pl, S (nS sO)]) ∧ (Blk W (aox.heap.size) 72 #[S ([]), S ([])]) ∧ (Blk W (aom.heap.size) 72 #[S (nS y.1), S (nS y.2)])) ((200)) ⟨200, x, 0, rfl, rfl, hp, hx, om, (Nat.le_refl _), aoq, r8, sc, ape⟩ ?_;rintro aqj aqk aql ⟨f, y, h, rfl, apx, hh, hy, hb, aqm, aol, r8, sc, hbx⟩;have aqn := bz aol;by_cases hl : sO < y.2 * 2;obtain ⟨g, rfl, hh2⟩ := half_t hh hl;refine go ?_;refine c_an 5 ?_;refine sf ?_;refine sf_ae (V := S (nS (y.2 * 2))) (fun aqu aqv aoy aqw => ?_) ?_;refine clb en1043 (hc := nMul_ok rfl lit2 (hy.fi dc).2 (fi_pow (k := 1) dc dc) (by have := hy.2; unfold Fi; omega) (ht.ext (xt aol aoy))) (hk := ?_);rintro aqx aqy aoz rfl;have ap1 := aoz.2;refine go ?_;exact fs ⟨ap1, rfl⟩;refine sf ?_;intro aq5 aq6 ao0 aq7;have r8 := be ao0.2 r8;have sc := be ao0.2 sc
 have hbx := be ao0.2 hbx;have aol := xt aol ao0.2;refine clb en84 (hc := cmpN rfl rfl (by have := hy.2; unfold Fi; omega) hS.fi) (hk := ?_);rintro aq8 aq9 ao1 rfl;have r8 := be ao1.2 r8;have sc := be ao1.2 sc;have hbx := be ao1.2 hbx;have aol := xt aol ao1.2;have zq1q := cmp_gt0 hl;refine go ?_;refine clb en1070 (hc := spBy_ok (hy.mono dc) dc dc dc (ht.ext aol)) (hk := ?_);rintro ara arb ao2 rfl;have r8 := be ao2.2 r8;have sc := be ao2.2 sc;have hbx := be ao2.2 hbx;have aol := xt aol ao2.2;refine SA hbx (fun arc ao3 ap2 => ?_);have r8 := pb ao3 r8;have sc := pb ao3 sc;have aol := plw ao3 aol;have ard := psz ao3;refine go ?_;refine l_op (k_add (a := (h : Int)) (b := 1) (c := ((h + 1 : Nat) : Int)) rfl rfl (by unfold In64; omega) om ?_);refine go ?_;exact lend ⟨g, byP y 1 2, h + 1, rfl, rfl, hh2, (half_bd hy), om, om, aol, r8, sc, ap2⟩;have hpe := half_f hh hl;subst hpe;have hm := sumP_inv hs;obtain ⟨m, hR, hr⟩ := hm;refine go ?_;refine c_an 5 ?_;refine sf ?_;refine sf_ae (V := S (nS (y.2 * 2))) (fun arm arn ao4 aro => ?_) ?_;refine clb en1043 (hc := nMul_ok rfl lit2 (hy.fi dc).2 (fi_pow (k := 1) dc dc) (by have := hy.2; unfold Fi; omega) (ht.ext (xt aol ao4))) (hk := ?_);rintro arp arq ao5 rfl;have ap3 := ao5.2;refine go ?_;exact fs ⟨ap3, rfl⟩;refine sf ?_;intro arx ary ao6 arz
 have r8 := be ao6.2 r8;have sc := be ao6.2 sc;have hbx := be ao6.2 hbx;have aol := xt aol ao6.2;refine clb en84 (hc := cmpN rfl rfl (by have := hy.2; unfold Fi; omega) hS.fi) (hk := ?_);rintro ar0 ap4 ao7 rfl;have r8 := be ao7.2 r8;have sc := be ao7.2 sc;have hbx := be ao7.2 hbx;have aol := xt aol ao7.2;have zq2q := cmp_gt1 hl;refine go ?_;refine c_an 7 ?_;refine sf ?_;refine sf_ae (V := .agg #[S (nS ((1 * sO, 1 * sO).1)), S (nS ((1 * sO, 1 * sO).2))]) (fun ar7 ar8 ao8 ar9 => ?_) ?_;refine clb en1030 (hc := spWhole_ok (n := 1) hS dc (by rw [Nat.one_mul]; exact hS.fi) (ht.ext (xt aol ao8))) (hk := ?_);rintro asa asb ao9 rfl;have ap5 := ao9.2;refine go ?_;exact fs ⟨ap5, rfl⟩;refine sf_ap (fun asc asd apr ase => by refine l_op (k_makeFunc (vf := []) (vc := [.pointer (some ⟨w.heap.size, 0, none⟩), .pointer (some ⟨aom.heap.size, 0, none⟩)]) rfl rfl ?_);refine go ?_;exact finp) ?_;refine sf_ah (fun v wz => SeqV (1 * sO, 1 * sO) (.func (.func 103) #[] #[.pointer (some ⟨w.heap.size, 0, none⟩), .pointer (some ⟨aom.heap.size, 0, none⟩)]) wz v) (hs := fun _ _ _ k h => h.ext k) (fun asf asg aps ash => ?_) ?_;refine cl en1072 (terms_ok) ?_;rintro asi asj apa hsq;have ap6 := apa.2;refine go ?_;exact fs ⟨ap6, hsq⟩;refine sf_ae (V := .agg #[S (nS s.1), S (nS s.2)]) (fun ask asl aor ap7 => ?_) ?_;obtain ⟨ap8, ap9, aqa, apt, apu⟩ := (ap7 4 23 rfl rfl);have r8 := be aor r8;have hbx := be aor hbx;refine clb en1071 (hc := cP (sum_ok hR hS apt apu en1073 (fun k hk W e => exp1_ok hS (r8.ext e) (hbx.ext e) (hR.bd k om) hy om (by have := hR.lt; omega) ((ht.ext (xt aol aor)).ext e)) (ht.ext (xt aol aor))) hr) (hk := ?_) (hv := cons_eq rfl (cons_eq aqa rfl))
 rintro asm aso aoo rfl;have aqb := aoo.2;refine go ?_;exact fs ⟨aqb, rfl⟩;refine sf_ah (fun v wz => ∃ b : Nat, v = .pointer (some ⟨b, 0, none⟩) ∧ ap4.heap.size ≤ b ∧ Blk wz b 72 #[S ([]), S ([])]) (hs := fun _ _ _ k ⟨b, e, l, h⟩ => ⟨b, e, l, h.ext k⟩) (fun asp asq apb asr => ?_) ?_;refine al inf1056 (fun ass apc aqc => ?_);have aqd := apc.2;refine go ?_;exact fs ⟨aqd, ⟨_, rfl, (by have := bz apb; omega), aqc⟩⟩;refine sf ?_;intro ast asu apd aqe;have r8 := be apd.2 r8;have sc := be apd.2 sc;have hbx := be apd.2 hbx;have aol := xt aol apd.2;obtain ⟨aop, aos, asv, apy⟩ := (aqe 6 6 rfl rfl);have asw := bt apy;refine SA apy (fun aqf aot aqg => ?_);have r8 := pb aot r8;have sc := pb aot sc;have hbx := pb aot hbx;have aol := plw aot aol;have asx := psz aot;refine go ?_;refine c_lp [(26, 32)] (fun kk e W => ∃ i : Nat, ∃ a : N2, (h - i = kk) ∧ (e 26 = .int .i64 i) ∧ (i ≤ h) ∧ (sqF sO (h - i) a = some r) ∧ (aqf.heap.size ≤ W.heap.size) ∧ (Ext w W) ∧ (Blk W (w.heap.size) 70 #[.int .i64 pl, S (nS sO)]) ∧ (Blk W (aox.heap.size) 72 #[S ([]), S ([])]) ∧ (Blk W (aom.heap.size) 72 #[S (nS y.1), S (nS y.2)]) ∧ (Blk W (aop) 72 #[S (nS a.1), S (nS a.2)])) (h - (0)) ⟨0, s, rfl, rfl, (Nat.zero_le _), hq, (Nat.le_refl _), aol, r8, sc, hbx, aqg⟩ ?_;rintro asy asz as0 ⟨i, a, rfl, apv, hi, hq2, as1, aon, r8, sc, hbx, hbo⟩;have as2 := bz aon;by_cases hl2 : i < h
 obtain ⟨ha, hq3⟩ := sq_t hq2 hl2;refine go ?_;refine cl en1074 (spTimes_ok hS ha ha (ht.ext aon)) ?_;rintro as3 as4 aou rfl;have r8 := be aou.2 r8;have sc := be aou.2 sc;have hbx := be aou.2 hbx;have hbo := be aou.2 hbo;have aon := xt aon aou.2;refine SA hbo (fun as5 aov aqh => ?_);have r8 := pb aov r8;have sc := pb aov sc;have hbx := pb aov hbx;have aon := plw aov aon;have as6 := psz aov;refine go ?_;refine l_op (k_add (a := (i : Int)) (b := 1) (c := ((i + 1 : Nat) : Int)) apv rfl (by unfold In64; omega) om ?_);refine go ?_;exact lend ⟨i + 1, tmP sO a a, rfl, rfl, om, hq3, om, aon, r8, sc, hbx, aqh⟩;obtain ⟨rfl, _⟩ := sq_f hq2 hl2;refine go ?_;refine SA sc (fun as7 aow aqi => ?_);have r8 := pb aow r8;have hbx := pb aow hbx;have hbo := pb aow hbo;have aon := plw aow aon;have as8 := psz aow;refine go ?_;refine f_out (v := .agg #[S (nS a.1), S (nS a.2)]) (res1  rfl ?_) aon rfl;refine res_cellA (t := 4) (cs := [S (nS a.1), S (nS a.2)]) (b := aox.heap.size) (o := 0) U1056 rfl sz1056 ?_ ?_;exact rfl;exact Blk.cells aqi (i := 0) rfl
end Go.Proofs.YtjijfnggomhpiaaGreatDoor
namespace Go.Proofs.YtjijfnggomhpiaaGreatDoor
open Go Go.Eng Go.RowKit
attribute [local irreducible] wpListIn Code.wpIn Oper.wpIn Exit.then Exit.inBlock Exit.noGoto
set_option maxHeartbeats 40000000
def limbs : Nat → Nat → Nat
  | 0, _ => 0
  | f + 1, n => if n = 0 then 0 else limbs f (n / 10000) + 1
theorem limbs_eq : ∀ {f n : Nat}, n < 10000 ^ f → (toB 10000 n).length = limbs f n
  | 0, n, h => by rw [show n = 0 by simpa using h, toB_zero]; rfl
  | f + 1, n, h => by
    unfold limbs
    split
    · rename_i h0; rw [h0, toB_zero]; rfl
    · rename_i h0
      rw [toB_pos 10000 n om om, List.length_cons, limbs_eq (f := f)]
      rw [Nat.pow_succ] at h
      exact Nat.div_lt_of_lt_mul (by rw [Nat.mul_comm]; exact h)
def rtF : Nat → Nat → Nat → Option Nat
  | 0, _, _ => none
  | f + 1, n, t => if t ≤ (t + n / t) / 2 then some t else rtF f n ((t + n / t) / 2)
def rtN (n : Nat) : Option Nat := rtF 1000 n (10000 ^ ((limbs 60 n + 1) / 2))
theorem rt_t {f n t r : Nat} (h : rtF f n t = some r) (hl : t ≤ (t + n / t) / 2) : r = t := by
  cases f with
  | zero => cases h
  | succ g => unfold rtF at h; rw [if_pos hl] at h; cases h; rfl
theorem rt_f {f n t r : Nat} (h : rtF f n t = some r) (hl : ¬ t ≤ (t + n / t) / 2) : ∃ g, f = g + 1 ∧ rtF g n ((t + n / t) / 2) = some r := by
  cases f with
  | zero => cases h
  | succ g => unfold rtF at h; rw [if_neg hl] at h; exact ⟨g, rfl, h⟩
theorem toB_pow (k : Nat) : toB 10000 (10000 ^ k) = List.replicate k 0 ++ [1] := by
  induction k with
  | zero => decide
  | succ k ih =>
    rw [toB_pos 10000 _ om (Nat.pow_pos om), Nat.pow_succ, Nat.mul_mod_left, Nat.mul_div_cancel _ om, ih, List.replicate_succ, List.cons_append]
theorem num_pow {w : World} {lo k c : Nat} {A : Option Addr} (h : Rw w lo A ((madeCells (Value.int .i64 0).cells (k * 1)).toList ++ [Value.int .i64 1])) (hc : k + 1 ≤ c) : Num w lo A (k + 1) c (10000 ^ k) := by
  refine ⟨?_, by rw [toB_pow]; simp, hc⟩
  have e : (madeCells (Value.int .i64 0).cells (k * 1)).toList ++ [Value.int .i64 1] = ints (toB 10000 (10000 ^ k)) := by
    show (madeCells #[Value.int .i64 0] (k * 1)).toList ++ _ = _
    rw [made_ints, toB_pow]; simp [ints]
  rw [← e]; exact h
theorem num_two {w : World} {lo : Nat} {A : Option Addr} (h : Rw w lo A [Value.int .i64 2]) : Num w lo A 1 1 2 := by
  have e : toB 10000 2 = [2] := by decide
  exact ⟨by rw [e]; exact h, by rw [e]; rfl, Nat.le_refl _⟩
theorem body_nS (n : Nat) : body (nS n) = showN n := by unfold nS; rw [body_showI]; simp
theorem neg_nS (n : Nat) : neg (nS n) = false := by unfold nS; rw [neg_showI]; exact decide_eq_false om
theorem bothN_ok {n : Nat} {w : World} (hn : Fi n) : Calls Tryz.prog 75 #[S (nS n), S [48]] w (Ret w fun v w' => ∃ A1 n1 c1 A2 n2 c2, v = .tuple #[.agg #[.bool false, .slice A1 n1 c1], .agg #[.bool false, .slice A2 n2 c2], .bool true] ∧ Num w' w.heap.size A1 n1 c1 n ∧ Num w' w.heap.size A2 n2 c2 0) := by
  have h := both_ok (nS n) [48] w hn.z.int isInt_zero
  rw [body_nS, neg_nS, valN_showN, show neg [48] = false from rfl, show valN (body [48]) = 0 from valN_zero] at h
  exact h
theorem fi50 {n : Nat} (h : Fi n) : n < 10000 ^ 50 := Nat.lt_of_lt_of_le h dc
theorem rt_sum {n t : Nat} (hn : n < 10000 ^ 50) (ht : t ≤ 10000 ^ 26) : t + n / t < 10000 ^ 51 := by
  have h1 : n / t ≤ n := Nat.div_le_self _ _
  have h2 : (10000 : Nat) ^ 50 + 10000 ^ 26 < 10000 ^ 51 := by decide
  omega
theorem out_fit {t : Nat} (ht : t ≤ 10000 ^ 26) : resI (outI (sgn false t)) = .tuple #[S (nS t), .int .i64 0] := by
  have h : fits (sgn false t) = true := decide_eq_true (by have h2 : (10000 : Nat) ^ 26 < 10 ^ 200 := by decide
                                                           simp [sgn]; omega)
  unfold outI; rw [if_pos h]; rfl
theorem cmpI_swap0 {x y : Int} : (0 ≤ cmpI x y) ↔ y ≤ x := by
  unfold cmpI; split
  · constructor <;> intro h <;> omega
  · split
    · constructor <;> intro _ <;> omega
    · constructor <;> intro _ <;> omega
theorem cEqR {f : FuncId} {a : Array Value} {w : World} {X Y : Value} (h : Calls Tryz.prog f a w (Ret w fun v _ => v = X)) (e : X = Y) : Calls Tryz.prog f a w (Ret w fun v _ => v = Y) := e ▸ h
theorem rt_ge {x y : Nat} (h : (0 : Int) ≤ cmpI (x : Int) (y : Int)) : y ≤ x := by
  rw [cmpI_swap0] at h
  omega
theorem rt_lt {x y : Nat} (h : ¬ (0 : Int) ≤ cmpI (x : Int) (y : Int)) : ¬ y ≤ x := by
  rw [cmpI_swap0] at h
  omega
theorem rt_pos {n t : Nat} (hn : 0 < n) (ht : 0 < t) : 0 < (t + n / t) / 2 := by
  by_cases h : t = 1
  · subst h; rw [Nat.div_one]; omega
  · have h2 : 2 ≤ t := by omega
    exact Nat.div_pos (Nat.le_trans h2 (Nat.le_add_right _ _)) om
set_option maxRecDepth 100000 in
theorem root_ok {n r : Nat} {w : World} (fn : Fi n) (hn0 : 0 < n) (hr : rtN n = some r) (ht : Tb w) :
    Calls Tryz.prog 140 #[S (nS n)] w (Ret w fun v w' => v = .tuple #[S (nS r), .int .i64 0]) := by
 have hl60 : (toB 10000 n).length = limbs 60 n := limbs_eq (Nat.lt_of_lt_of_le (fi50 fn) (Nat.pow_le_pow_right dc dc));refine f_in Tryz.func140 rfl ?_;refine go ?_;refine cl en104 (bothN_ok fn) ?_;rintro aph aom apb ⟨A1, n1, c1, A2, n2, c2, rfl, hN, hz⟩;have aol := apb.2;have uhN := hN.hi;have l1 := num_len hN (fi50 fn);have p1 : 0 < n1 := by rw [← hN.len, List.length_pos_iff]; exact fun e => by have := ofB_toB 10000 om n; rw [e] at this; simp [ofB] at this; omega
 refine go ?_;refine al inf125 (fun ao1 ao6 ao2 => ?_);have hN := Num.ext ao6.2 hN;have aol := xt aol ao6.2;refine al inf125 (fun api ao3 ao4 => ?_);have hN := Num.ext ao3.2 hN;have ao2 := be ao3.2 ao2;have aol := xt aol ao3.2;refine SA ao2 (fun apj aox kx => ?_);have hN := Num.putU aox (fun ad e => by have := uhN ad e; omega) hN;have ao4 := pb aox ao4;have aol := plw aox aol;have apk := psz aox;refine SA ao4 (fun ao5 aoy r8 => ?_);have hN := Num.putU aoy (fun ad e => by have := uhN ad e; omega) hN;have kx := pb aoy kx;have aol := plw aoy aol;have apl := psz aoy;refine go ?_;refine l_op (k_add (a := (n1 : Int)) (b := 1) (c := ((n1 + 1 : Nat) : Int)) rfl rfl (by unfold In64; omega) om ?_);refine l_op (k_quo (a := ((n1 + 1 : Nat) : Int)) (b := 2) (c := ((((n1 + 1) / 2) : Nat) : Int)) rfl rfl om om (by unfold In64; omega) om ?_);refine l_op (k_make (m := ((n1 + 1) / 2)) U123 inf3 rfl rfl om (by simp only [maxLen]; omega) (fun apm aot apn aou => ?_));have ao7 : (.slice (some ⟨ao5.heap.size, 0, none⟩) (((n1 + 1) / 2)) (((n1 + 1) / 2)) : Value).ownBlock ≠ some (aom.heap.size) := fun e => by (have := bt kx; simp only [Value.ownBlock, Option.map_some, Option.some.injEq] at e; omega)
 have ao8 : (.slice (some ⟨ao5.heap.size, 0, none⟩) (((n1 + 1) / 2)) (((n1 + 1) / 2)) : Value).ownBlock ≠ some (ao1.heap.size) := fun e => by (have := bt r8; simp only [Value.ownBlock, Option.map_some, Option.some.injEq] at e; omega)
 have hN := Num.ext aot hN;have kx := be aot kx;have r8 := be aot r8;have aol := xt aol aot;have apo := bz aot;refine BS (fun apq aor apr apc => ?_);have aps := own_ne_new aou;have hN := Num.ext aor hN;have kx := be aor kx;have r8 := be aor r8;have aou := own_ext aor aou;have aol := xt aol aor;have apt := bz aor;refine AP aou (Rw.of_own apc) (fun apd ape ao9 aov apa => ?_);have apu := own_ne_app apa ao7 (bt kx);have apv := own_ne_app apa ao8 (bt r8);have hN := Num.gr aov (fun ad e => by have := uhN ad e; simp [Value.ownBlock]; omega) hN;have kx := Blk.gr aov (fun e => ao7 e.symm) kx;have r8 := Blk.gr aov (fun e => ao8 e.symm) r8;have aol := low_app aou om om aol aov;have apw := aov.size;refine l_op (k_assign (v := apd) rfl ?_);refine go ?_;obtain ⟨At, ct, rfl, hct, -, -, -⟩ := own_form ao9;have hT := num_pow (Rw.of_own ao9) hct;have hr0 : rtF 1000 n (10000 ^ ((n1 + 1) / 2)) = some r := by rw [← hN.len, hl60]; exact hr
 refine go ?_;refine c_lp [(2, 3), (7, 11), (32, 60)] (fun kk e W => ∃ f : Nat, ∃ Ax : Option Addr, ∃ nx : Nat, ∃ cx : Nat, ∃ t : Nat, (f = kk) ∧ (e 7 = .slice (Ax) (nx) (cx)) ∧ (rtF f n t = some r) ∧ (t ≤ 10000 ^ 26) ∧ (0 < t) ∧ (ape.heap.size ≤ W.heap.size) ∧ (Ext w W) ∧ (Num W w.heap.size A1 n1 c1 n) ∧ (Blk W (aom.heap.size) 97 #[.bool (false), .slice (A1) (n1) (c1)]) ∧ (Blk W (ao1.heap.size) 97 #[.bool (false), .slice (A2) (n2) (c2)]) ∧ (Num W w.heap.size Ax nx cx t)) ((1000)) ⟨1000, At, ((n1 + 1) / 2) + 1, ct, 10000 ^ ((n1 + 1) / 2), rfl, rfl, hr0, (Nat.pow_le_pow_right dc om), (Nat.pow_pos dc), (Nat.le_refl _), aol, hN, kx, r8, (hT.mono om)⟩ ?_;rintro apx apy apz ⟨f, Ax, nx, cx, t, rfl, aoz, hf, htb, ht0, ap0, sc, hN, kx, r8, hT⟩;have ap1 := bz sc;have lt := num_len (k := 27) hT (Nat.lt_of_le_of_lt htb dc);have lN := num_len hN (fi50 fn);refine go ?_;refine clb en105 (hc := over_ok hN om hT om ht0) (hk := ?_);rintro ap2 ap3 aow ⟨Aq, nq, cq, Ar, nr, cr, rfl, hQ, hRr⟩;have hN := Num.ext aow.2 hN;have kx := be aow.2 kx;have r8 := be aow.2 r8;have hT := Num.ext aow.2 hT;have sc := xt sc aow.2;have lq := num_len hQ (Nat.lt_of_le_of_lt (Nat.div_le_self _ _) (fi50 fn));refine go ?_;refine clb en106 (hc := plus_ok hT om hQ om) (hk := ?_);rintro ap4 apf aos ⟨As, ns, cs, rfl, hS⟩;have hN := Num.ext aos.2 hN;have kx := be aos.2 kx;have r8 := be aos.2 r8;have hT := Num.ext aos.2 hT
 have sc := xt sc aos.2;have ls := num_len hS (rt_sum (fi50 fn) htb);refine BS (fun ap5 aon ap6 apg => ?_);have hN := Num.ext aon hN;have kx := be aon kx;have r8 := be aon r8;have hT := Num.ext aon hT;have hS := Num.ext aon hS;have sc := xt sc aon;have ap7 := bz aon;have h2n := num_two (Rw.of_own apg);refine clb en105 (hc := over_ok hS om h2n om dc) (hk := ?_);rintro ap8 ap9 aoq ⟨Ay, ny, cy, Ar2, nr2, cr2, rfl, hY, hR2⟩;have hN := Num.ext aoq.2 hN;have kx := be aoq.2 kx;have r8 := be aoq.2 r8;have hT := Num.ext aoq.2 hT;have sc := xt sc aoq.2;have ly := num_len hY (Nat.lt_of_le_of_lt (Nat.div_le_self _ _) (rt_sum (fi50 fn) htb));refine go ?_;refine clb en110 (hc := compare_ok hY om hT) (hk := ?_);rintro aqa aqb aoo rfl;have hN := Num.ext aoo.2 hN;have kx := be aoo.2 kx;have r8 := be aoo.2 r8;have hT := Num.ext aoo.2 hT;have hY := Num.ext aoo.2 hY;have sc := xt sc aoo.2;refine go ?_;by_cases ao0 : 0 ≤ (cmpI ((((t + n / t) / 2 : Nat)) : Int) (((t : Nat)) : Int));have hge := rt_ge ao0;have hrt := rt_t hf hge;refine go ?_;refine l_op (k_build (vs := [(1, .slice (Ax) (nx) (cx))]) (cells := #[.bool (false), .slice (Ax) (nx) (cx)]) (pl := [(0, 1), (1, 1)]) U125 inf125 (by kernel_rfl) rfl (by kernel_rfl) ?_);refine clb en109 (hc := cEqR (stext_ok (ng := false) hT om (ht.ext sc)) (out_fit htb)) (hk := ?_);rintro aqc aqd aop rfl;have sc := xt sc aop.2;refine go ?_
 exact f_ret2 (t := 2) (u := 3) (v1 := S (nS t)) (v2 := .int .i64 (0)) rfl sc (by rw [hrt]) rfl rfl;have hge := rt_lt ao0;obtain ⟨g, rfl, h2⟩ := rt_f hf hge;refine go ?_;exact lend ⟨g, Ay, ny, cy, (t + n / t) / 2, rfl, rfl, h2, (by have := Nat.not_le.1 hge; omega), (rt_pos hn0 ht0), om, sc, hN, kx, r8, (hY.mono om)⟩
end Go.Proofs.YtjijfnggomhpiaaGreatDoor
namespace Go.Proofs.YtjijfnggomhpiaaGreatDoor
open Go Go.Eng Go.RowKit
def rootP (S : Nat) (a : N2) : Option N2 := if bdB a = true ∧ 0 < a.1 * S ∧ 0 < a.2 * S then (rtN (a.1 * S)).bind fun x => (rtN (a.2 * S)).bind fun y => if bdB (x, y) = true then some (x, y + 1) else none else none
theorem root_inv {S : Nat} {a r : N2} (h : rootP S a = some r) : Bk 95 a ∧ 0 < a.1 * S ∧ 0 < a.2 * S ∧ ∃ x y, rtN (a.1 * S) = some x ∧ rtN (a.2 * S) = some y ∧ Bk 95 (x, y) ∧ r = (x, y + 1) := by
  unfold rootP at h
  split at h
  · rename_i h1
    refine ⟨bdB_ok h1.1, h1.2.1, h1.2.2, ?_⟩
    cases hx : rtN (a.1 * S) with
    | none => rw [hx] at h; cases h
    | some x =>
      rw [hx, Option.bind_some] at h
      cases hy : rtN (a.2 * S) with
      | none => rw [hy] at h; cases h
      | some y =>
        rw [hy, Option.bind_some] at h
        split at h
        · rename_i h2; cases h; exact ⟨x, y, rfl, rfl, bdB_ok h2, rfl⟩
        · cases h
  · cases h
def piL : List UInt8 := [51, 49, 52, 49, 53, 57, 50, 54, 53, 51, 53, 56, 57, 55, 57, 51, 50, 51, 56, 52, 54, 50, 54, 52, 51, 51, 56, 51, 50, 55, 57, 53, 48, 50, 56, 56, 52, 49, 57, 55, 49, 54, 57, 51, 57, 57, 51, 55, 53, 49, 48, 53, 56, 50, 48, 57, 55, 52, 57, 52, 52, 53, 57, 50, 51, 48, 55, 56, 49, 54, 52, 48, 54, 50, 56, 54, 50, 48, 56, 57, 57]
def piN (k : Nat) : Nat := 314159265358979323846264338327950288419716939937510582097494459230781640628620899 / 10 ^ (80 - k)
theorem pi_str {k : Nat} (h : k < 81) : piL.take (k + 1) = nS (piN k) := by
  have : ∀ k : Fin 81, piL.take (k.1 + 1) = nS (piN k.1) := by decide +kernel
  exact this ⟨k, h⟩
theorem pi_bd {k : Nat} : piN k < 10 ^ 81 := Nat.lt_of_le_of_lt (Nat.div_le_self _ _) (by decide)
def hnP (S pl n d : Nat) : Option N2 :=
  if bdB (n, d) = true ∧ 0 < d ∧ bdB (ofP S n d) = true ∧ bdB (tmP S (ofP S n d) (ofP S n d)) = true then
    (sumP (hnN S (tmP S (ofP S n d) (ofP S n d))) (ofP S n d)).bind fun s =>
    (expP S (byP (tmP S (ofP S n d) (ofP S n d)) 1 2)).bind fun e =>
    (rootP S (byP (piN pl, piN pl + 1) 2 1)).bind fun c =>
    if bdB s = true ∧ bdB c = true ∧ 0 < (tmP S e c).1 ∧ 0 < (tmP S e c).2 then some (ovP S s (tmP S e c)) else none
  else none
theorem hn_inv {S pl n d : Nat} {r : N2} (h : hnP S pl n d = some r) : Bk 95 (n, d) ∧ 0 < d ∧ Bk 95 (ofP S n d) ∧ Bk 95 (tmP S (ofP S n d) (ofP S n d)) ∧ ∃ s e c,
    sumP (hnN S (tmP S (ofP S n d) (ofP S n d))) (ofP S n d) = some s ∧ expP S (byP (tmP S (ofP S n d) (ofP S n d)) 1 2) = some e ∧ rootP S (byP (piN pl, piN pl + 1) 2 1) = some c ∧ Bk 95 s ∧ Bk 95 c ∧ 0 < (tmP S e c).1 ∧ 0 < (tmP S e c).2 ∧ r = ovP S s (tmP S e c) := by
  unfold hnP at h
  split at h
  · rename_i h1
    refine ⟨bdB_ok h1.1, h1.2.1, bdB_ok h1.2.2.1, bdB_ok h1.2.2.2, ?_⟩
    cases hs : sumP (hnN S (tmP S (ofP S n d) (ofP S n d))) (ofP S n d) with
    | none => rw [hs] at h; cases h
    | some s =>
      rw [hs, Option.bind_some] at h
      cases he : expP S (byP (tmP S (ofP S n d) (ofP S n d)) 1 2) with
      | none => rw [he] at h; cases h
      | some e =>
        rw [he, Option.bind_some] at h
        cases hc : rootP S (byP (piN pl, piN pl + 1) 2 1) with
        | none => rw [hc] at h; cases h
        | some c =>
          rw [hc, Option.bind_some] at h
          split at h
          · rename_i h2; cases h; exact ⟨s, e, c, rfl, rfl, rfl, bdB_ok h2.1, bdB_ok h2.2.1, h2.2.2.1, h2.2.2.2, rfl⟩
          · cases h
  · cases h
end Go.Proofs.YtjijfnggomhpiaaGreatDoor
namespace Go.Proofs.YtjijfnggomhpiaaGreatDoor
set_option maxRecDepth 100000
open Go Go.Eng Go.RowKit
attribute [local irreducible] wpListIn Code.wpIn Oper.wpIn Exit.then Exit.inBlock Exit.noGoto
set_option maxHeartbeats 40000000
theorem pi_len : piL.length = 81 := by decide +kernel
theorem spOfL_ok {l m : List UInt8} {sO pl n d : Nat} {w : World} (hl : l = nS n) (hm : m = nS d) (hS : Sc sO) (hn : Fi n) (hd : Fi d) (h0 : 0 < d) (hf : Fi (n * sO)) (ht : Tb w) :
    Calls Tryz.prog 50 #[.agg #[.int .i64 pl, S (nS sO)], .agg #[S l, S m]] w (Ret w fun v _ => v = .agg #[S (nS (ofP sO n d).1), S (nS (ofP sO n d).2)]) := by
  subst hl hm
  exact spOf_ok hS hn hd h0 hf ht
theorem spRoot_ok {sO pl : Nat} {a r : N2} {w : World} (hS : Sc sO) (hr : rootP sO a = some r) (ht : Tb w) :
    Calls Tryz.prog 98 #[.agg #[.int .i64 pl, S (nS sO)], .agg #[S (nS a.1), S (nS a.2)]] w (Ret w fun v w' => v = .agg #[S (nS r.1), S (nS r.2)]) := by
 obtain ⟨ha, p1, p2, x, y, hr1, hr2, hb, hre⟩ := root_inv hr;have fa := ha.fi dc;refine f_in Tryz.func98 rfl ?_;refine go ?_;refine bx (fun aon aox sc => ?_);have r8 := aox.2;refine bx (fun aov aow aol => ?_);have sc := be aow.2 sc;have r8 := xt r8 aow.2;refine al inf1056 (fun aoz aou aom => ?_);have sc := be aou.2 sc;have aol := be aou.2 aol;have r8 := xt r8 aou.2;refine go ?_;refine clb en1043 (hc := nMul_ok rfl rfl fa.1 hS.fi (fi_mul ha.1 hS.lt dc) (ht.ext r8)) (hk := ?_);rintro ao0 ao1 aoo rfl;have sc := be aoo.2 sc;have aol := be aoo.2 aol;have aom := be aoo.2 aom;have r8 := xt r8 aoo.2;refine clb en1136 (hc := root_ok (fi_mul ha.1 hS.lt dc) p1 hr1 (ht.ext r8)) (hk := ?_);rintro ao2 ao3 aop rfl;have sc := be aop.2 sc;have aol := be aop.2 aol;have aom := be aop.2 aom;have r8 := xt r8 aop.2;refine go ?_;refine clb en1043 (hc := nMul_ok rfl rfl fa.2 hS.fi (fi_mul ha.2 hS.lt dc) (ht.ext r8)) (hk := ?_);rintro ao4 ao5 aoq rfl;have sc := be aoq.2 sc;have aol := be aoq.2 aol;have aom := be aoq.2 aom;have r8 := xt r8 aoq.2;refine clb en1136 (hc := root_ok (fi_mul ha.2 hS.lt dc) p2 hr2 (ht.ext r8)) (hk := ?_);rintro ao6 ao7 aor rfl;have sc := be aor.2 sc;have aol := be aor.2 aol;have aom := be aor.2 aom;have r8 := xt r8 aor.2;refine go ?_;refine clb en1045 (hc := nAdd_ok rfl lit1 (by have := hb.2; unfold Fi; simp only at this; omega) (ht.ext r8)) (hk := ?_)
 rintro ao8 ao9 aos rfl;have sc := be aos.2 sc;have aol := be aos.2 aol;have aom := be aos.2 aom;have r8 := xt r8 aos.2;refine go ?_;refine SA aom (fun apa aot aoy => ?_);have sc := pb aot sc;have aol := pb aot aol;have r8 := plw aot r8;have apb := psz aot;refine go ?_;refine f_out (v := .agg #[S (nS x), S (nS (y + 1))]) (res1  rfl ?_) r8 (by rw [hre]);refine res_cellA (t := 4) (cs := [S (nS x), S (nS (y + 1))]) (b := aov.heap.size) (o := 0) U1056 rfl sz1056 ?_ ?_;exact rfl;exact Blk.cells aoy (i := 0) rfl
theorem pi_ok {sO pl : Nat} {w : World} (hp : pl < 81) (ht : Tb w) :
    Calls Tryz.prog 99 #[.agg #[.int .i64 pl, S (nS sO)]] w (Ret w fun v w' => v = .agg #[S (nS ((piN pl, piN pl + 1).1)), S (nS ((piN pl, piN pl + 1).2))]) := by
 refine f_in Tryz.func99 rfl ?_;refine go ?_;refine bx (fun aoo aoq sc => ?_);have r8 := aoq.2;refine al inf1056 (fun aos aop aol => ?_);have sc := be aop.2 sc;have r8 := xt r8 aop.2;refine go ?_;refine l_op (k_add (a := (pl : Int)) (b := 1) (c := ((pl + 1 : Nat) : Int)) rfl rfl (by unfold In64; omega) om ?_);refine l_op (k_sliceS (l := piL) (i := 0) (j := pl + 1) U9 rfl (.inl ⟨rfl, rfl⟩) (.inr ⟨_, congrArg some rfl⟩) om (by rw [pi_len]; omega) ?_);rw [show (piL.take (pl + 1)).drop 0 = piL.take (pl + 1) from rfl];refine go ?_;refine clb en1045 (hc := nAdd_ok (pi_str hp) lit1 (by have := pi_bd (k := pl); unfold Fi; omega) (ht.ext r8)) (hk := ?_);rintro aot aou aom rfl;have sc := be aom.2 sc;have aol := be aom.2 aol;have r8 := xt r8 aom.2;refine go ?_;refine SA aol (fun aov aon aor => ?_);have sc := pb aon sc;have r8 := plw aon r8;have aow := psz aon;refine go ?_;refine f_out (v := .agg #[S (piL.take (pl + 1)), S (nS (piN pl + 1))]) (res1  rfl ?_) r8 (by exact congrArg (fun l => Value.agg #[S l, S (nS (piN pl + 1))]) (pi_str hp));refine res_cellA (t := 2) (cs := [S (piL.take (pl + 1)), S (nS (piN pl + 1))]) (b := aoo.heap.size) (o := 0) U1056 rfl sz1056 ?_ ?_;exact rfl;exact Blk.cells aor (i := 0) rfl
theorem artanh_ok {sO pl : Nat} {u r : N2} {w : World} (hS : Sc sO) (ha : artP sO u = some r) (ht : Tb w) :
    Calls Tryz.prog 117 #[.agg #[.int .i64 pl, S (nS sO)], .agg #[S (nS u.1), S (nS u.2)]] w (Ret w fun v w' => v = .agg #[S (nS r.1), S (nS r.2)]) := by
 obtain ⟨hu, hq, s, hs, rfl⟩ := art_inv ha;obtain ⟨m, hR, hr⟩ := sumP_inv hs;refine f_in Tryz.func117 rfl ?_;refine go ?_;refine bx (fun ao6 apf r8 => ?_);have aon := apf.2;refine bx (fun apa apb sc => ?_);have r8 := be apb.2 r8;have aon := xt aon apb.2;refine al inf1056 (fun apt ao7 aol => ?_);have r8 := be ao7.2 r8;have sc := be ao7.2 sc;have aon := xt aon ao7.2;refine go ?_;refine cl en1074 (spTimes_ok hS hu hu (ht.ext aon)) ?_;rintro apu aoz ao0 rfl;have r8 := be ao0.2 r8;have sc := be ao0.2 sc;have aol := be ao0.2 aol;have aon := xt aon ao0.2;refine al inf1056 (fun apv ao1 apg => ?_);have r8 := be ao1.2 r8;have sc := be ao1.2 sc;have aol := be ao1.2 aol;have aon := xt aon ao1.2;refine SA apg (fun aph aot aom => ?_);have r8 := pb aot r8;have sc := pb aot sc;have aol := pb aot aol;have aon := plw aot aon;have apw := psz aot;refine go ?_;refine c_an 6 ?_;refine sf ?_;refine sf_ap (fun ap3 ap4 ao4 ap5 => by refine l_op (k_makeFunc (vf := []) (vc := [.pointer (some ⟨w.heap.size, 0, none⟩), .pointer (some ⟨aoz.heap.size, 0, none⟩)]) rfl rfl ?_);refine go ?_;exact finp) ?_;refine sf_ah (fun v wz => SeqV u (.func (.func 151) #[] #[.pointer (some ⟨w.heap.size, 0, none⟩), .pointer (some ⟨aoz.heap.size, 0, none⟩)]) wz v) (hs := fun _ _ _ k h => h.ext k) (fun ap6 ap7 ao5 ap8 => ?_) ?_;refine cl en1072 (terms_ok) ?_;rintro ap9 aqa aou hsq;have api := aou.2
 refine go ?_;exact fs ⟨api, hsq⟩;refine sf_ae (V := .agg #[S (nS s.1), S (nS s.2)]) (fun aqb aqc aop apj => ?_) ?_;obtain ⟨apk, apl, apm, ao8, ao9⟩ := (apj 3 14 rfl rfl);have r8 := be aop r8;have aom := be aop aom;refine clb en1071 (hc := cP (sum_ok hR hS ao8 ao9 en5151 (fun k hk W e => art1_ok hS (r8.ext e) (aom.ext e) (hR.bd k om) hq om (by have := hR.lt; omega) ((ht.ext (xt aon aop)).ext e)) (ht.ext (xt aon aop))) hr) (hk := ?_) (hv := cons_eq rfl (cons_eq apm rfl));rintro aqd aqe aoo rfl;have apn := aoo.2;refine go ?_;exact fs ⟨apn, rfl⟩;refine sf_ah (fun v wz => ∃ b : Nat, v = .pointer (some ⟨b, 0, none⟩) ∧ aph.heap.size ≤ b ∧ Blk wz b 72 #[S ([]), S ([])]) (hs := fun _ _ _ k ⟨b, e, l, h⟩ => ⟨b, e, l, h.ext k⟩) (fun aqf aqg aov aqh => ?_) ?_;refine al inf1056 (fun aqi aow apo => ?_);have apq := aow.2;refine go ?_;exact fs ⟨apq, ⟨_, rfl, (by have := bz aov; omega), apo⟩⟩;refine sf ?_;intro aqj aqk aox apr;have r8 := be aox.2 r8;have sc := be aox.2 sc;have aol := be aox.2 aol;have aom := be aox.2 aom;have aon := xt aon aox.2;obtain ⟨apc, apd, aql, ape⟩ := (apr 5 6 rfl rfl);have aqm := bt ape;refine SA ape (fun aqn aoq aoy => ?_);have r8 := pb aoq r8;have sc := pb aoq sc;have aol := pb aoq aol;have aom := pb aoq aom;have aon := plw aoq aon;have aqo := psz aoq;refine go ?_;refine clb en1070 (hc := spBy_ok ((show Bk 100 s from hr ▸ hR.res).mono dc) dc dc dc (ht.ext aon)) (hk := ?_)
 rintro aqp aqq aor rfl;have r8 := be aor.2 r8;have sc := be aor.2 sc;have aol := be aor.2 aol;have aom := be aor.2 aom;have aoy := be aor.2 aoy;have aon := xt aon aor.2;refine SA aol (fun aqr aos aps => ?_);have r8 := pb aos r8;have sc := pb aos sc;have aom := pb aos aom;have aoy := pb aos aoy;have aon := plw aos aon;have aqs := psz aos;refine go ?_;refine f_out (v := .agg #[S (nS ((byP s 2 1).1)), S (nS ((byP s 2 1).2))]) (res1  rfl ?_) aon rfl;refine res_cellA (t := 4) (cs := [S (nS ((byP s 2 1).1)), S (nS ((byP s 2 1).2))]) (b := apa.heap.size) (o := 0) U1056 rfl sz1056 ?_ ?_;exact rfl;exact Blk.cells aps (i := 0) rfl
theorem halfNormal_ok {sO pl n d : Nat} {r : N2} {w : World} (hS : Sc sO) (hp : pl < 81) (hh : hnP sO pl n d = some r) (ht : Tb w) :
    Calls Tryz.prog 105 #[.agg #[.int .i64 pl, S (nS sO)], .agg #[S (nS n), S (nS d)]] w (Ret w fun v w' => v = .agg #[S (nS r.1), S (nS r.2)]) := by
 obtain ⟨hnd, hd0, hv, hqq, s, e1, c, hs, he, hc, hsb, hcb, hm1, hm2, rfl⟩ := hn_inv hh;obtain ⟨m, hR, hr⟩ := sumP_inv hs;have heb := exp_bd he;have fnd := hnd.fi dc;refine f_in Tryz.func105 rfl ?_;refine go ?_;refine bx (fun ap6 ap7 r8 => ?_);have aop := ap7.2;refine bx (fun ap1 ap2 sc => ?_);have r8 := be ap2.2 r8;have aop := xt aop ap2.2;refine al inf1056 (fun aqr apy aol => ?_);have r8 := be apy.2 r8;have sc := be apy.2 sc;have aop := xt aop apy.2;refine go ?_;refine clb en1032 (hc := spOfL_ok (n := n) (d := d) rfl rfl hS fnd.1 fnd.2 hd0 (fi_mul hnd.1 hS.lt dc) (ht.ext aop)) (hk := ?_);rintro aqs apv apw rfl;have r8 := be apw.2 r8;have sc := be apw.2 sc;have aol := be apw.2 aol;have aop := xt aop apw.2;refine al inf1056 (fun aqt apx ap8 => ?_);have r8 := be apx.2 r8;have sc := be apx.2 sc;have aol := be apx.2 aol;have aop := xt aop apx.2;refine SA ap8 (fun aqu apm aom => ?_);have r8 := pb apm r8;have sc := pb apm sc;have aol := pb apm aol;have aop := plw apm aop;have aqv := psz apm;refine go ?_;refine cl en1074 (spTimes_ok hS hv hv (ht.ext aop)) ?_;rintro aqw apn apo rfl;have r8 := be apo.2 r8;have sc := be apo.2 sc;have aol := be apo.2 aol;have aom := be apo.2 aom;have aop := xt aop apo.2;refine al inf1056 (fun aqx apq ap9 => ?_);have r8 := be apq.2 r8;have sc := be apq.2 sc;have aol := be apq.2 aol
 have aom := be apq.2 aom;have aop := xt aop apq.2;refine SA ap9 (fun aqa ao8 aon => ?_);have r8 := pb ao8 r8;have sc := pb ao8 sc;have aol := pb ao8 aol;have aom := pb ao8 aom;have aop := plw ao8 aop;have aqy := psz ao8;refine go ?_;refine c_an 6 ?_;refine sf ?_;refine sf_ap (fun aq5 aq6 apt aq7 => by refine l_op (k_makeFunc (vf := []) (vc := [.pointer (some ⟨w.heap.size, 0, none⟩), .pointer (some ⟨apn.heap.size, 0, none⟩)]) rfl rfl ?_);refine go ?_;exact finp) ?_;refine sf_ah (fun v wz => SeqV (ofP sO n d) (.func (.func 144) #[] #[.pointer (some ⟨w.heap.size, 0, none⟩), .pointer (some ⟨apn.heap.size, 0, none⟩)]) wz v) (hs := fun _ _ _ k h => h.ext k) (fun aq8 aq9 apu ara => ?_) ?_;refine cl en1072 (terms_ok) ?_;rintro arb arc ao9 hsq;have aqb := ao9.2;refine go ?_;exact fs ⟨aqb, hsq⟩;refine sf_ae (V := .agg #[S (nS s.1), S (nS s.2)]) (fun ard arf aor aqc => ?_) ?_;obtain ⟨aqd, aqe, aqf, apz, ap0⟩ := (aqc 3 18 rfl rfl);have r8 := be aor r8;have aon := be aor aon;refine clb en1071 (hc := cP (sum_ok hR hS apz ap0 en1132 (fun k hk W e => hn1_ok hS (r8.ext e) (aon.ext e) (hR.bd k om) hqq om (by have := hR.lt; omega) ((ht.ext (xt aop aor)).ext e)) (ht.ext (xt aop aor))) hr) (hk := ?_) (hv := cons_eq rfl (cons_eq aqf rfl));rintro arh ari aoq rfl;have aqg := aoq.2;refine go ?_;exact fs ⟨aqg, rfl⟩;refine sf_ah (fun v wz => ∃ b : Nat, v = .pointer (some ⟨b, 0, none⟩) ∧ aqa.heap.size ≤ b ∧ Blk wz b 72 #[S ([]), S ([])]) (hs := fun _ _ _ k ⟨b, e, l, h⟩ => ⟨b, e, l, h.ext k⟩) (fun arj ark apa arl => ?_) ?_
 refine al inf1056 (fun arm apb aqh => ?_);have aqi := apb.2;refine go ?_;exact fs ⟨aqi, ⟨_, rfl, (by have := bz apa; omega), aqh⟩⟩;refine sf ?_;intro arn aro apc aqj;have r8 := be apc.2 r8;have sc := be apc.2 sc;have aol := be apc.2 aol;have aom := be apc.2 aom;have aon := be apc.2 aon;have aop := xt aop apc.2;obtain ⟨ap3, ap4, arp, ap5⟩ := (aqj 5 7 rfl rfl);have arq := bt ap5;refine SA ap5 (fun arr aos aoo => ?_);have r8 := pb aos r8;have sc := pb aos sc;have aol := pb aos aol;have aom := pb aos aom;have aon := pb aos aon;have aop := plw aos aop;have ars := psz aos;refine go ?_;refine c_an 15 ?_;refine sf ?_;refine sf_ae (V := .agg #[S (nS ((byP (tmP sO (ofP sO n d) (ofP sO n d)) 1 2).1)), S (nS ((byP (tmP sO (ofP sO n d) (ofP sO n d)) 1 2).2))]) (fun asb asc aot asd => ?_) ?_;refine clb en1070 (hc := spBy_ok (hqq.mono dc) dc dc dc (ht.ext (xt aop aot))) (hk := ?_);rintro ase asf aou rfl;have aqk := aou.2;refine go ?_;exact fs ⟨aqk, rfl⟩;refine sf_ae (V := .agg #[S (nS e1.1), S (nS e1.2)]) (fun asg ash aov asi => ?_) ?_;refine cl en1031 (exp_ok hS he (ht.ext (xt aop aov))) ?_;rintro asj ask aow rfl;have aql := aow.2;refine go ?_;exact fs ⟨aql, rfl⟩;refine sf ?_;refine sf_ae (V := .agg #[S (nS ((piN pl, piN pl + 1).1)), S (nS ((piN pl, piN pl + 1).2))]) (fun asv asw aox asx => ?_) ?_;refine cl en1104 (pi_ok hp (ht.ext (xt aop aox))) ?_
 rintro asy asz aoy rfl;have aqm := aoy.2;refine go ?_;exact fs ⟨aqm, rfl⟩;refine sf_ae (V := .agg #[S (nS ((byP (piN pl, piN pl + 1) 2 1).1)), S (nS ((byP (piN pl, piN pl + 1) 2 1).2))]) (fun as0 as1 aoz as2 => ?_) ?_;refine clb en1070 (hc := spBy_ok (⟨lt_pow_mono pi_bd dc, by have := pi_bd (k := pl); simp only; omega⟩ : Bk 190 (piN pl, piN pl + 1)) dc dc dc (ht.ext (xt aop aoz))) (hk := ?_);rintro as3 as4 ao0 rfl;have aqn := ao0.2;refine go ?_;exact fs ⟨aqn, rfl⟩;refine sf_ae (V := .agg #[S (nS c.1), S (nS c.2)]) (fun as5 as6 ao1 as7 => ?_) ?_;refine cl en1103 (spRoot_ok hS hc (ht.ext (xt aop ao1))) ?_;rintro as8 as9 ao2 rfl;have aqo := ao2.2;refine go ?_;exact fs ⟨aqo, rfl⟩;refine sf_ae (V := .agg #[S (nS ((tmP sO e1 c).1)), S (nS ((tmP sO e1 c).2))]) (fun ata atb ao3 atc => ?_) ?_;refine cl en1074 (spTimes_ok hS heb hcb (ht.ext (xt aop ao3))) ?_;rintro atd ate ao4 rfl;have aqp := ao4.2;refine go ?_;exact fs ⟨aqp, rfl⟩;refine sf ?_;intro atf atg ao5 ath;have r8 := be ao5.2 r8;have sc := be ao5.2 sc;have aol := be ao5.2 aol;have aom := be ao5.2 aom;have aon := be ao5.2 aon;have aoo := be ao5.2 aoo;have aop := xt aop ao5.2;refine cl en1029 (spOver_ok hS hsb (tmP_bd hS.pos heb hcb) hm1 hm2 (ht.ext aop)) ?_;rintro ati atj ao6 rfl;have r8 := be ao6.2 r8;have sc := be ao6.2 sc;have aol := be ao6.2 aol;have aom := be ao6.2 aom;have aon := be ao6.2 aon;have aoo := be ao6.2 aoo
 have aop := xt aop ao6.2;refine SA aol (fun atk ao7 aqq => ?_);have r8 := pb ao7 r8;have sc := pb ao7 sc;have aom := pb ao7 aom;have aon := pb ao7 aon;have aoo := pb ao7 aoo;have aop := plw ao7 aop;have atl := psz ao7;refine go ?_;refine f_out (v := .agg #[S (nS ((ovP sO s (tmP sO e1 c)).1)), S (nS ((ovP sO s (tmP sO e1 c)).2))]) (res1  rfl ?_) aop rfl;refine res_cellA (t := 4) (cs := [S (nS ((ovP sO s (tmP sO e1 c)).1)), S (nS ((ovP sO s (tmP sO e1 c)).2))]) (b := ap1.heap.size) (o := 0) U1056 rfl sz1056 ?_ ?_;exact rfl;exact Blk.cells aqq (i := 0) rfl
end Go.Proofs.YtjijfnggomhpiaaGreatDoor
namespace Go.Proofs.YtjijfnggomhpiaaGreatDoor
set_option maxRecDepth 100000
open Go Go.Eng Go.RowKit
attribute [local irreducible] wpListIn Code.wpIn Oper.wpIn Exit.then Exit.inBlock Exit.noGoto
set_option maxHeartbeats 40000000
theorem hp_1 {l : List UInt8} (h : (1 : Int) ≤ ((l.length : Nat) : Int)) : Value.bool (decide (l.take 1 = [45])) = .bool (neg l) := by
  cases l with
  | nil => simp at h
  | cons a t => congr 1; simp only [neg, List.take_succ_cons, List.take_zero, List.cons.injEq, and_true]; cases hh : decide (a = 45) <;> simp_all
theorem hp_0 {l : List UInt8} (h : ¬ (1 : Int) ≤ ((l.length : Nat) : Int)) : Value.bool false = .bool (neg l) := by
  cases l with
  | nil => rfl
  | cons a t => simp at h; omega
theorem cut_t {l : List UInt8} (h : neg l = true) : l.drop 1 = body l := by
  have := neg_cons h
  rw [this]; rfl
theorem len_neg {l : List UInt8} (h : neg l = true) : 1 ≤ l.length := by rw [neg_cons h]; simp
theorem neg_z {N : Int} (h : N < 0) : neg (showI N) = true := by rw [neg_showI]; exact decide_eq_true h
theorem pos_z {N : Int} (h : ¬ N < 0) : neg (showI N) = false := by rw [neg_showI]; exact decide_eq_false h
theorem showN_nS (n : Nat) : showN n = nS n := (body_nS n).symm.trans (by unfold nS; exact body_neg (neg_nS n))
theorem body_z (N : Int) : body (showI N) = nS N.natAbs := by rw [body_showI, showN_nS]
theorem showI_nS {N : Int} (h : ¬ N < 0) : showI N = nS N.natAbs := by unfold nS; congr 1; omega
def nrP (S pl : Nat) (N : Int) (d : Nat) : Option (Int × Int) := (hnP S pl N.natAbs d).map fun h => if N < 0 then miP (ofP S 1 2) h else zP (plP (ofP S 1 2) h)
theorem nr_inv {S pl d : Nat} {N : Int} {r : Int × Int} (h : nrP S pl N d = some r) : ∃ h, hnP S pl N.natAbs d = some h ∧ r = if N < 0 then miP (ofP S 1 2) h else zP (plP (ofP S 1 2) h) := by
  unfold nrP at h
  cases hh : hnP S pl N.natAbs d with
  | none => rw [hh] at h; cases h
  | some x => rw [hh] at h; cases h; exact ⟨x, rfl, rfl⟩
theorem hn_bd {S pl n d : Nat} {r : N2} (hS : Sc S) (h : hnP S pl n d = some r) : Bk 190 r := by
  obtain ⟨_, _, _, _, s, e, c, _, _, _, hs, _, h1, _, rfl⟩ := hn_inv h
  exact ovP_bd hS h1 hs
theorem of_bd {S n d : Nat} (hS : Sc S) (hn : n < 10) (hd : 0 < d) : Bk 99 (ofP S n d) := by
  have h1 : n * S < 10 ^ 99 := by
    have := hS.lt
    have h2 : n * S ≤ 10 * S := Nat.mul_le_mul_right _ om
    omega
  exact ⟨Nat.lt_of_le_of_lt (Nat.div_le_self _ _) h1, Nat.lt_of_le_of_lt (upn_le hd) h1⟩
theorem hasPrefixL_ok (l : List UInt8) (w : World) :
    Calls Tryz.prog 108 #[S (l), S ([45])] w (Ret w fun v w' => v = .bool (neg l)) := by
 refine f_in Tryz.func108 rfl ?_;refine go ?_;by_cases r8 : ((1 : Nat) : Int) ≤ (((l).length : Nat) : Int);refine go ?_;refine l_op (k_lenL (l := l) U9 rfl ?_);refine go ?_;refine l_op (k_lenLm (l := [45]) (m := 1) U9 rfl rfl ?_);refine go ?_;refine l_op (k_lenLm (l := [45]) (m := 1) U9 rfl rfl ?_);refine go ?_;refine l_op (k_sliceS (l := l) (i := 0) (j := (1)) U9 rfl (.inl ⟨rfl, rfl⟩) (.inr ⟨_, congrArg some rfl⟩) om om ?_);rw [show ((l).take ((1))).drop 0 = (l).take ((1)) from rfl];refine go ?_;refine eqs (b := [45]) ?_;refine go ?_;exact f_ret1 (t := 4) (v := .bool (decide (((l).take ((1))) = ([45])))) rfl (Ext.refl _) (hp_1 r8) rfl;refine go ?_;refine l_op (k_lenL (l := l) U9 rfl ?_);refine go ?_;refine l_op (k_lenLm (l := [45]) (m := 1) U9 rfl rfl ?_);refine go ?_;exact f_ret1 (t := 4) (v := .bool (false)) rfl (Ext.refl _) (hp_0 r8) rfl
theorem cutLT_ok {l : List UInt8} {w : World} (h : neg l = true) :
    Calls Tryz.prog 101 #[S (l), S ([45])] w (Ret w fun v w' => v = .tuple #[S (body l), .bool true]) := by
 refine f_in Tryz.func101 rfl ?_;refine go ?_;refine cl en158 (hasPrefixL_ok l _) ?_;rintro aol aom r8 rfl;have sc := r8.2;refine go ?_;refine l_op (k_lenLm (l := [45]) (m := 1) U9 rfl rfl ?_);refine l_op (k_sliceS (l := l) (i := (1)) (j := (l).length) U9 rfl (.inr ⟨_, congrArg some rfl⟩) (.inl ⟨rfl, rfl⟩) (len_neg h) (Nat.le_refl _) ?_);rw [show ((l).take ((l).length)).drop ((1)) = (l).drop ((1)) by rw [List.take_length]]
 refine go ?_;exact f_ret2 (t := 4) (u := 5) (v1 := S ((l).drop ((1)))) (v2 := .bool (true)) rfl sc (by rw [cut_t h]) rfl rfl
theorem cutT_ok {l : List UInt8} {w : World} (h : neg l = true) :
    Calls Tryz.prog 46 #[S (l), S ([45])] w (Ret w fun v w' => v = .tuple #[S (body l), .bool true]) := by
 refine f_in Tryz.func46 rfl ?_;refine go ?_;refine cl en1068 (cutLT_ok h) ?_;rintro aol aom r8 rfl;have sc := r8.2;refine go ?_;exact f_ret2 (t := 4) (u := 5) (v1 := S (body l)) (v2 := .bool (true)) rfl sc rfl rfl rfl
theorem cutLF_ok {l : List UInt8} {w : World} (h : neg l = false) :
    Calls Tryz.prog 101 #[S (l), S ([45])] w (Ret w fun v w' => v = .tuple #[S l, .bool false]) := by
 refine f_in Tryz.func101 rfl ?_;refine go ?_;refine cl en158 (hasPrefixL_ok l _) ?_;rintro aol aom r8 rfl;have sc := r8.2;refine go ?_;exact f_ret2 (t := 4) (u := 5) (v1 := S (l)) (v2 := .bool (false)) rfl sc rfl rfl rfl
theorem cutF_ok {l : List UInt8} {w : World} (h : neg l = false) :
    Calls Tryz.prog 46 #[S (l), S ([45])] w (Ret w fun v w' => v = .tuple #[S l, .bool false]) := by
 refine f_in Tryz.func46 rfl ?_;refine go ?_;refine cl en1068 (cutLF_ok h) ?_;rintro aol aom r8 rfl;have sc := r8.2;refine go ?_;exact f_ret2 (t := 4) (u := 5) (v1 := S (l)) (v2 := .bool (false)) rfl sc rfl rfl rfl
theorem normal_ok {sO pl d : Nat} {N : Int} {r : Int × Int} {w : World} (hS : Sc sO) (hp : pl < 81) (hr : nrP sO pl N d = some r) (ht : Tb w) :
    Calls Tryz.prog 52 #[.agg #[.int .i64 pl, S (nS sO)], .agg #[S (showI N), S (nS d)]] w (Ret w fun v w' => v = .agg #[S (showI r.1), S (showI r.2)]) := by
 obtain ⟨h, hh, rfl⟩ := nr_inv hr;have hb := hn_bd hS hh;have ho := of_bd (n := 1) (d := 2) hS dc dc;by_cases hN : N < 0;rw [if_pos hN];refine f_in Tryz.func52 rfl ?_;refine go ?_;refine bx (fun ao7 apx r8 => ?_);have aoq := apx.2;refine bx (fun apr aps sc => ?_);have r8 := be aps.2 r8;have aoq := xt aoq aps.2;refine al inf1056 (fun ap5 apn aom => ?_);have r8 := be apn.2 r8;have sc := be apn.2 sc;have aoq := xt aoq apn.2;refine go ?_;refine clb en1032 (hc := spOfL_ok (n := 1) (d := 2) lit1 lit2 hS fi1 (fi_pow (k := 1) dc dc) dc (by rw [Nat.one_mul]; exact hS.fi) (ht.ext aoq)) (hk := ?_);rintro ap6 apt ao8 rfl;have r8 := be ao8.2 r8;have sc := be ao8.2 sc;have aom := be ao8.2 aom;have aoq := xt aoq ao8.2;refine al inf1056 (fun ap7 ao9 apy => ?_);have r8 := be ao9.2 r8;have sc := be ao9.2 sc;have aom := be ao9.2 aom;have aoq := xt aoq ao9.2;refine SA apy (fun ap8 aot aoo => ?_);have r8 := pb aot r8;have sc := pb aot sc;have aom := pb aot aom;have aoq := plw aot aoq;have ap9 := psz aot;refine go ?_;refine cl en1028 (cEq (Y := .tuple #[S (nS N.natAbs), .bool (true)]) (cutT_ok (neg_z hN)) (congrArg (fun l => Value.tuple #[S l, .bool true]) (body_z _))) ?_;rintro aqa aqb aou rfl;have r8 := be aou.2 r8;have sc := be aou.2 sc;have aom := be aou.2 aom;have aoo := be aou.2 aoo;have aoq := xt aoq aou.2
 refine go ?_;refine c_an 8 ?_;refine sf ?_;refine sf_ae (V := .agg #[S (nS h.1), S (nS h.2)]) (fun aqx aqy aov aqz => ?_) ?_;refine cl en1095 (halfNormal_ok hS hp hh (ht.ext (xt aoq aov))) ?_;rintro aq0 aq1 aow rfl;have apz := aow.2;refine go ?_;exact fs ⟨apz, rfl⟩;refine sf ?_;intro aq2 aq3 aox aq4;have r8 := be aox.2 r8;have sc := be aox.2 sc;have aom := be aox.2 aom;have aoo := be aox.2 aoo;have aoq := xt aoq aox.2;refine clb en1094 (hc := spMinus_ok (ho.mono dc) (hb.mono dc) (ht.ext aoq)) (hk := ?_);rintro aq5 aq6 aoy rfl;have r8 := be aoy.2 r8;have sc := be aoy.2 sc;have aom := be aoy.2 aom;have aoo := be aoy.2 aoo;have aoq := xt aoq aoy.2;refine SA aom (fun aq7 aoz ap0 => ?_);have r8 := pb aoz r8;have sc := pb aoz sc;have aoo := pb aoz aoo;have aoq := plw aoz aoq;have aq8 := psz aoz;refine go ?_;refine f_out (v := .agg #[S (showI ((miP (ofP sO 1 2) h).1)), S (showI ((miP (ofP sO 1 2) h).2))]) (res1  rfl ?_) aoq rfl;refine res_cellA (t := 4) (cs := [S (showI ((miP (ofP sO 1 2) h).1)), S (showI ((miP (ofP sO 1 2) h).2))]) (b := apr.heap.size) (o := 0) U1056 rfl sz1056 ?_ ?_;exact rfl;exact Blk.cells ap0 (i := 0) rfl;rw [if_neg hN];refine f_in Tryz.func52 rfl ?_;refine go ?_;refine bx (fun apo ap1 aol => ?_);have aor := ap1.2;refine bx (fun apu apv aon => ?_);have aol := be apv.2 aol;have aor := xt aor apv.2
 refine al inf1056 (fun aq9 apq aop => ?_);have aol := be apq.2 aol;have aon := be apq.2 aon;have aor := xt aor apq.2;refine go ?_;refine clb en1032 (hc := spOfL_ok (n := 1) (d := 2) lit1 lit2 hS fi1 (fi_pow (k := 1) dc dc) dc (by rw [Nat.one_mul]; exact hS.fi) (ht.ext aor)) (hk := ?_);rintro ara apw aph rfl;have aol := be aph.2 aol;have aon := be aph.2 aon;have aop := be aph.2 aop;have aor := xt aor aph.2;refine al inf1056 (fun arb api ap2 => ?_);have aol := be api.2 aol;have aon := be api.2 aon;have aop := be api.2 aop;have aor := xt aor api.2;refine SA ap2 (fun arc ao0 aos => ?_);have aol := pb ao0 aol;have aon := pb ao0 aon;have aop := pb ao0 aop;have aor := plw ao0 aor;have ard := psz ao0;refine go ?_;refine cl en1028 (cutF_ok (pos_z hN)) ?_;rintro arf arh ao1 rfl;have aol := be ao1.2 aol;have aon := be ao1.2 aon;have aop := be ao1.2 aop;have aos := be ao1.2 aos;have aor := xt aor ao1.2;refine go ?_;refine c_an 5 ?_;refine sf ?_;refine sf_ae (V := .agg #[S (nS h.1), S (nS h.2)]) (fun aru arv ao2 arw => ?_) ?_;refine clb en1095 (hc := show Calls Tryz.prog 105 #[.agg #[.int .i64 pl, S (nS sO)], .agg #[S (showI N), S (nS d)]] _ _ by rw [showI_nS hN]; exact halfNormal_ok hS hp hh (ht.ext (xt aor ao2))) (hk := ?_);rintro arx ary ao3 rfl;have ap3 := ao3.2;refine go ?_;exact fs ⟨ap3, rfl⟩
 refine sf ?_;intro arz ar0 ao4 ar1;have aol := be ao4.2 aol;have aon := be ao4.2 aon;have aop := be ao4.2 aop;have aos := be ao4.2 aos;have aor := xt aor ao4.2;refine clb en1078 (hc := spPlus_ok (by have := hb.1; have := ho.1; unfold Fi; omega) (by have := hb.2; have := ho.2; unfold Fi; omega) (ht.ext aor)) (hk := ?_);rintro ar2 ar3 ao5 rfl;have aol := be ao5.2 aol;have aon := be ao5.2 aon;have aop := be ao5.2 aop;have aos := be ao5.2 aos;have aor := xt aor ao5.2;refine SA aop (fun ar4 ao6 ap4 => ?_);have aol := pb ao6 aol;have aon := pb ao6 aon;have aos := pb ao6 aos;have aor := plw ao6 aor;have ar5 := psz ao6;refine go ?_;refine f_out (v := .agg #[S (nS ((plP (ofP sO 1 2) h).1)), S (nS ((plP (ofP sO 1 2) h).2))]) (res1  rfl ?_) aor rfl;refine res_cellA (t := 4) (cs := [S (nS ((plP (ofP sO 1 2) h).1)), S (nS ((plP (ofP sO 1 2) h).2))]) (b := apu.heap.size) (o := 0) U1056 rfl sz1056 ?_ ?_;exact rfl;exact Blk.cells ap4 (i := 0) rfl
end Go.Proofs.YtjijfnggomhpiaaGreatDoor
namespace Go.Proofs.YtjijfnggomhpiaaGreatDoor
open Go Go.Eng Go.RowKit
attribute [local irreducible] wpListIn Code.wpIn Oper.wpIn Exit.then Exit.inBlock Exit.noGoto
set_option maxHeartbeats 40000000
theorem cmpI_swap (x y : Int) : cmpI x y = -cmpI y x := by
  unfold cmpI; repeat' split
  all_goals first | rfl | omega
theorem cmpI_iff {a b c d : Int} (h1 : a < b ↔ c < d) (h2 : a = b ↔ c = d) : cmpI a b = cmpI c d := by
  unfold cmpI
  by_cases h : a < b
  · rw [if_pos h, if_pos (h1.1 h)]
  · rw [if_neg h, if_neg (fun e => h (h1.2 e))]
    by_cases h' : a = b
    · rw [if_pos h', if_pos (h2.1 h')]
    · rw [if_neg h', if_neg (fun e => h' (h2.2 e))]
theorem cmpI_sub {a b c d : Int} (h : a - b = c - d) : cmpI a b = cmpI c d := cmpI_iff om om
theorem floor_lt {n1 d1 n2 d2 : Int} (h1 : 0 < d1) (h2 : 0 < d2) (h : n1 / d1 < n2 / d2) : n1 * d2 < n2 * d1 := by
  have e1 := Int.lt_ediv_add_one_mul_self n1 h1
  have e2 := Int.ediv_mul_le n2 (show d2 ≠ 0 by omega)
  have e3 : (n1 / d1 + 1) * d1 ≤ (n2 / d2) * d1 := Int.mul_le_mul_of_nonneg_right om om
  have e4 : n1 * d2 < (n2 / d2) * d1 * d2 := Int.mul_lt_mul_of_pos_right om h2
  have e5 : (n2 / d2) * d2 * d1 ≤ n2 * d1 := Int.mul_le_mul_of_nonneg_right e2 om
  have e6 : (n2 / d2) * d1 * d2 = (n2 / d2) * d2 * d1 := by rw [Int.mul_assoc, Int.mul_comm d1 d2, ← Int.mul_assoc]
  omega
theorem cq_ne {n1 d1 n2 d2 : Int} (h1 : 0 < d1) (h2 : 0 < d2) (h : ¬ cmpI (n1 / d1) (n2 / d2) = 0) : cmpI (n1 / d1) (n2 / d2) = cmpI (n1 * d2) (n2 * d1) := by
  have hne : n1 / d1 ≠ n2 / d2 := fun e => h (cmpI_eq e)
  rcases Int.lt_or_gt_of_ne hne with hl | hl
  · rw [cmpI_lt hl, cmpI_lt (floor_lt h1 h2 hl)]
  · rw [cmpI_gt hl, cmpI_gt (floor_lt h2 h1 hl)]
theorem cmpI_zero {x y : Int} (h : cmpI x y = 0) : x = y := by
  unfold cmpI at h
  split at h
  · omega
  · split at h
    · assumption
    · omega
theorem cq_eq {n1 d1 n2 d2 : Int} (h : cmpI (n1 / d1) (n2 / d2) = 0) : cmpI (n1 * d2) (n2 * d1) = cmpI (n1 % d1 * d2) (n2 % d2 * d1) := by
  have e := cmpI_zero h
  refine cmpI_sub ?_
  have a1 := Int.mul_ediv_add_emod n1 d1
  have a2 := Int.mul_ediv_add_emod n2 d2
  generalize n1 / d1 = p at *; generalize n2 / d2 = q at *; generalize n1 % d1 = r at *; generalize n2 % d2 = s at *
  subst e; subst a1; subst a2
  rw [Int.add_mul, Int.add_mul, show d1 * p * d2 = d2 * p * d1 by rw [Int.mul_comm d1 p, Int.mul_comm d2 p, Int.mul_assoc, Int.mul_comm d1 d2, ← Int.mul_assoc]]
  omega
theorem in64_sg {sg x y : Int} (h : sg = 1 ∨ sg = -1) : In64 (sg * cmpI x y) := by
  have h1 : cmpI x y ≤ 1 ∧ -1 ≤ cmpI x y := by unfold cmpI; split; omega; split <;> omega
  unfold In64; rcases h with rfl | rfl <;> omega
section
variable {N1 D1 N2 D2 n1 d1 n2 d2 sg : Int} (hi : cmpI (N1 * D2) (N2 * D1) = sg * cmpI (n1 * d2) (n2 * d1)) (h1 : 0 < d1) (h2 : 0 < d2)
include hi h1 h2
theorem cp_ne (h : ¬ cmpI (n1 / d1) (n2 / d2) = 0) : sg * cmpI (n1 / d1) (n2 / d2) = cmpI (N1 * D2) (N2 * D1) := by rw [hi, cq_ne h1 h2 h]
theorem cp_00 (h : cmpI (n1 / d1) (n2 / d2) = 0) (hr : showI (n1 % d1) = [48]) (hs : showI (n2 % d2) = [48]) : 0 = cmpI (N1 * D2) (N2 * D1) := by
  rw [hi, cq_eq h, showI_zero.1 hr, showI_zero.1 hs]; simp [cmpI]
theorem cp_0n (h : cmpI (n1 / d1) (n2 / d2) = 0) (hr : showI (n1 % d1) = [48]) (hs : ¬ showI (n2 % d2) = [48]) : -sg = cmpI (N1 * D2) (N2 * D1) := by
  have h0 : n2 % d2 ≠ 0 := fun e => hs (showI_zero.2 e)
  have h3 := Int.emod_nonneg n2 (show d2 ≠ 0 by omega)
  rw [hi, cq_eq h, showI_zero.1 hr, cmpI_lt (by rw [Int.zero_mul]; exact Int.mul_pos om h1)]; omega
theorem cp_n0 (h : cmpI (n1 / d1) (n2 / d2) = 0) (hr : ¬ showI (n1 % d1) = [48]) (hs : showI (n2 % d2) = [48]) : sg = cmpI (N1 * D2) (N2 * D1) := by
  have h0 : n1 % d1 ≠ 0 := fun e => hr (showI_zero.2 e)
  have h3 := Int.emod_nonneg n1 (show d1 ≠ 0 by omega)
  rw [hi, cq_eq h, showI_zero.1 hs, cmpI_gt (by rw [Int.zero_mul]; exact Int.mul_pos om h2)]; omega
theorem cp_go (h : cmpI (n1 / d1) (n2 / d2) = 0) (hr : ¬ showI (n1 % d1) = [48]) (hs : ¬ showI (n2 % d2) = [48]) :
    cmpI (N1 * D2) (N2 * D1) = -sg * cmpI (d1 * (n2 % d2)) (d2 * (n1 % d1)) ∧ 0 < n1 % d1 ∧ 0 < n2 % d2 := by
  have h0 : n1 % d1 ≠ 0 := fun e => hr (showI_zero.2 e)
  have h3 := Int.emod_nonneg n1 (show d1 ≠ 0 by omega)
  have h4 : n2 % d2 ≠ 0 := fun e => hs (showI_zero.2 e)
  have h5 := Int.emod_nonneg n2 (show d2 ≠ 0 by omega)
  refine ⟨?_, by omega, by omega⟩
  rw [hi, cq_eq h, cmpI_swap (d1 * _), Int.mul_comm d1, Int.mul_comm d2, Int.neg_mul_neg]
end
theorem fz_mod {n d : Int} (h : Fz d) (hd : 0 < d) : Fz (n % d) := by
  have h1 := Int.emod_nonneg n (show d ≠ 0 by omega)
  have h2 := Int.emod_lt_of_pos n hd
  unfold Fz at *; omega
set_option maxRecDepth 100000 in
theorem rCmpZ_ok {N1 D1 N2 D2 : Int} {w : World} (o1 : okR (showI N1, showI D1) = true) (o2 : okR (showI N2, showI D2) = true) (fN1 : Fz N1) (fD1 : Fz D1) (fN2 : Fz N2) (fD2 : Fz D2) (ht : Tb w) :
    Calls Tryz.prog 10 #[.agg #[S (showI N1), S (showI D1)], .agg #[S (showI N2), S (showI D2)]] w (Ret w fun v w' => v = .int .i64 (cmpI (N1 * D2) (N2 * D1))) := by
 have P1 : 0 < D1 := by have := okR_pos o1; rwa [valZ_showI] at this
 have P2 : 0 < D2 := by have := okR_pos o2; rwa [valZ_showI] at this
 refine f_in Tryz.func10 rfl ?_;refine go ?_;refine bx (fun r8 arw ao2 => ?_);have aoz := arw.2;refine bx (fun auk ap6 ao4 => ?_);have ao2 := be ap6.2 ao2;have aoz := xt aoz ap6.2;refine go ?_;refine cl en82 (rValid_ok (showI N1) (showI D1) _ (ht.ext aoz)) ?_;rintro aul aum api rfl;have ao2 := be api.2 ao2;have ao4 := be api.2 ao4;have aoz := xt aoz api.2;refine go ?_;refine cl en82 (rValid_ok (showI N2) (showI D2) _ (ht.ext aoz)) ?_;rintro aun auo apj rfl;have ao2 := be apj.2 ao2;have ao4 := be apj.2 ao4;have aoz := xt aoz apj.2;refine go ?_;refine wpIn_label (n_then ?_);refine c_lab [(4, 12), (21, 73)] (fun kk e W => ∃ n1 : Int, ∃ d1 : Int, ∃ n2 : Int, ∃ d2 : Int, ∃ sg : Int, (d1.toNat = kk) ∧ (e 5 = .int .i64 (sg)) ∧ (0 < d1) ∧ (0 < d2) ∧ (Fz n1) ∧ (Fz d1) ∧ (Fz n2) ∧ (Fz d2) ∧ (sg = 1 ∨ sg = -1) ∧ (cmpI (N1 * D2) (N2 * D1) = sg * cmpI (n1 * d2) (n2 * d1)) ∧ (Ext w W) ∧ (Blk W (w.heap.size) 25 #[S (showI n1), S (showI d1)]) ∧ (Blk W (r8.heap.size) 25 #[S (showI n2), S (showI d2)])) ((D1).toNat) ⟨N1, D1, N2, D2, 1, rfl, rfl, P1, P2, fN1, fD1, fN2, fD2, (Or.inl rfl), (Int.one_mul _).symm, aoz, ao2, ao4⟩ ?_;rintro aup auq aur ⟨n1, d1, n2, d2, sg, rfl, ao8, p1, p2, fn1, fd1, fn2, fd2, hsg, hi, kx, hB1, hB2⟩;have aus := bz kx;refine go ?_;refine cl en83 (cEq (Y := .tuple #[S (showI (n1 / d1)), S (showI (n1 % d1)), .int .i64 (0)]) (iDiv_ok _ _ _ (ht.ext kx)) (congrArg resD (divI_Z fn1 fd1 (Int.ne_of_gt p1) (fz_div fn1 p1)))) ?_
 rintro aut auu apk rfl;have hB1 := be apk.2 hB1;have hB2 := be apk.2 hB2;have kx := xt kx apk.2;refine go ?_;refine cl en83 (cEq (Y := .tuple #[S (showI (n2 / d2)), S (showI (n2 % d2)), .int .i64 (0)]) (iDiv_ok _ _ _ (ht.ext kx)) (congrArg resD (divI_Z fn2 fd2 (Int.ne_of_gt p2) (fz_div fn2 p2)))) ?_;rintro auv auw apl rfl;have hB1 := be apl.2 hB1;have hB2 := be apl.2 hB2;have kx := xt kx apl.2;refine go ?_;refine cl en84 (cEq (Y := .int .i64 (cmpI (n1 / d1) (n2 / d2))) (iCmp_ok _ _ _) (congrArg (Value.int .i64) (cmpS_Z (fz_div fn1 p1) (fz_div fn2 p2)))) ?_;rintro aux ap7 apm rfl;have hB1 := be apm.2 hB1;have hB2 := be apm.2 hB2;have kx := xt kx apm.2;refine go ?_;by_cases ao0 : (cmpI (n1 / d1) (n2 / d2)) = 0;refine go ?_;by_cases aoy : (showI (n1 % d1)) = ([48]);refine go ?_;refine eqs (b := [48]) ?_;refine go ?_;refine eqs (b := [48]) ?_;refine go ?_;by_cases ao9 : (showI (n2 % d2)) = ([48]);refine go ?_;exact f_ret1 (t := 4) (v := .int .i64 (0)) rfl kx (congrArg (Value.int .i64) (cp_00 hi p1 p2 ao0 aoy ao9)) rfl;refine go ?_;refine eqs (b := [48]) ?_;refine go ?_;refine l_op (k_neg (a := sg) rfl (by unfold In64; omega) ?_);refine go ?_;exact f_ret1 (t := 4) (v := .int .i64 (-sg)) rfl kx (congrArg (Value.int .i64) (cp_0n hi p1 p2 ao0 aoy ao9)) rfl;refine go ?_;refine eqs (b := [48]) ?_;refine go ?_;refine eqs (b := [48]) ?_;refine go ?_;refine eqs (b := [48]) ?_;refine go ?_;by_cases ao5 : (showI (n2 % d2)) = ([48]);refine go ?_
 exact f_ret1 (t := 4) (v := .int .i64 (sg)) rfl kx (congrArg (Value.int .i64) (cp_n0 hi p1 p2 ao0 aoy ao5)) rfl;refine go ?_;have apa := Ext.drew ap7;refine c_st2 hmix 12 (fun e0 ls e W => (∀ t, inB [64, 65, 66, 67, 68, 69, 70, 71, 72, 73] t = false → e t = e0 t) ∧ (Ext w W) ∧ (ap7.heap.size ≤ W.heap.size) ∧ (ls 0 = true → e 64 = .pointer (some ⟨w.heap.size, 1, none⟩)) ∧ (ls 1 = true → e 65 = S (showI d1)) ∧ (ls 2 = true → e 66 = S (showI (n1 % d1))) ∧ (ls 3 = true → e 67 = .agg #[S (showI d1), S (showI (n1 % d1))]) ∧ (ls 4 = true → e 68 = .pointer (some ⟨r8.heap.size, 1, none⟩)) ∧ (ls 5 = true → e 69 = S (showI d2)) ∧ (ls 6 = true → e 70 = S (showI (n2 % d2))) ∧ (ls 7 = true → e 71 = .agg #[S (showI d2), S (showI (n2 % d2))]) ∧ (ls 8 = true → e 72 = .int .i64 (sg)) ∧ (ls 9 = true → e 73 = .int .i64 (-sg)) ∧ (ls 10 = false → Blk W (w.heap.size) 25 #[S (showI n1), S (showI d1)]) ∧ (ls 10 = true → Blk W (w.heap.size) 25 #[S (showI d1), S (showI (n1 % d1))]) ∧ (ls 11 = false → Blk W (r8.heap.size) 25 #[S (showI n2), S (showI d2)]) ∧ (ls 11 = true → Blk W (r8.heap.size) 25 #[S (showI d2), S (showI (n2 % d2))])) ⟨(fun _ _ => rfl), (xt kx apa), (bz apa), (ff rfl), (ff rfl), (ff rfl), (ff rfl), (ff rfl), (ff rfl), (ff rfl), (ff rfl), (ff rfl), (ff rfl), (fun _ => (be apa hB1)), (fun h  => ff rfl h), (fun _ => (be apa hB2)), (fun h  => ff rfl h)⟩ (by kernel_rfl) (by kernel_rfl) ?_ ?_;refine ⟨fun auy ap8 apb arx apc apn auz => ?_, ?_⟩;obtain ⟨ap9, kx, zst, sc, aol, aom, aon, aoo, aop, aoq, aor, aos, aot, aov, aow, aou, aox⟩ := arx
 obtain ⟨auy, rfl⟩ := ovE ap9;have ary : apb 1 = false := (unl apc (i := 0) (j := 1) rfl apn);have aqa : apb 10 = false := (unl apc (i := 0) (j := 10) rfl apn);have aqb : apb 11 = false := (unl apc (i := 0) (j := 11) rfl apn);have au0 : apb 3 = false := (unl apc (i := 1) (j := 3) rfl ary);have au1 := bz kx;have aqc : Blk ap8 (w.heap.size) 25 #[S (showI n1), S (showI d1)] := aov aqa;have au2 := bt aqc;have aqd : Blk ap8 (r8.heap.size) 25 #[S (showI n2), S (showI d2)] := aou aqb;have au3 := bt aqd;refine go ?_;exact ⟨rfl, _, (act_put _ _ _ _ _).symm, (same_upd rfl ap9), kx, om, (fun _ => rfl), aol, aom, aon, aoo, aop, aoq, aor, aos, aot, (fun au4 => aqc), (fun arz => ff aqa arz), (fun au5 => aqd), (fun ar0 => ff aqb ar0)⟩;refine ⟨fun ar1 aqe apd ar2 apo apq ar3 => ?_, ?_⟩;obtain ⟨ar4, kx, zst, sc, aol, aom, aon, aoo, aop, aoq, aor, aos, aot, aov, aow, aou, aox⟩ := ar2;obtain ⟨ar1, rfl⟩ := ovE ar4;have ar5 : apd 0 = true := (ar3 0 rfl);have au6 : apd 3 = false := (unl apo (i := 1) (j := 3) rfl apq);have aqf : apd 10 = false := (unl apo (i := 1) (j := 10) rfl apq);have aqg : apd 11 = false := (unl apo (i := 1) (j := 11) rfl apq);have ar6 : ar1 64 = .pointer (some ⟨w.heap.size, 1, none⟩) := sc ar5;have au7 := bz kx;have apr : Blk aqe (w.heap.size) 25 #[S (showI n1), S (showI d1)] := aov aqf;have au8 := bt apr;have aqh : Blk aqe (r8.heap.size) 25 #[S (showI n2), S (showI d2)] := aou aqg;have au9 := bt aqh;refine go ?_;exact ⟨rfl, _, (act_put _ _ _ _ _).symm, (same_upd rfl ar4), kx, om, sc, (fun _ => rfl), aom, aon, aoo, aop, aoq, aor, aos, aot, (fun ava => apr), (fun ar7 => ff aqf ar7), (fun avb => aqh), (fun ar8 => ff aqg ar8)⟩
 refine ⟨fun avc aqi aps ar9 apt apu avd => ?_, ?_⟩;obtain ⟨aqj, kx, zst, sc, aol, aom, aon, aoo, aop, aoq, aor, aos, aot, aov, aow, aou, aox⟩ := ar9;obtain ⟨avc, rfl⟩ := ovE aqj;have ave : aps 3 = false := (unl apt (i := 2) (j := 3) rfl apu);have aqk : aps 10 = false := (unl apt (i := 2) (j := 10) rfl apu);have aql : aps 11 = false := (unl apt (i := 2) (j := 11) rfl apu);have avf := bz kx;have aqm : Blk aqi (w.heap.size) 25 #[S (showI n1), S (showI d1)] := aov aqk;have avg := bt aqm;have aqn : Blk aqi (r8.heap.size) 25 #[S (showI n2), S (showI d2)] := aou aql;have avh := bt aqn;refine go ?_;exact ⟨rfl, _, (act_put _ _ _ _ _).symm, (same_upd rfl aqj), kx, om, sc, aol, (fun _ => rfl), aon, aoo, aop, aoq, aor, aos, aot, (fun avi => aqm), (fun asa => ff aqk asa), (fun avj => aqn), (fun asb => ff aql asb)⟩;refine ⟨fun aqo aqp ao6 asc apv aqq aqr => ?_, ?_⟩;obtain ⟨asd, kx, zst, sc, aol, aom, aon, aoo, aop, aoq, aor, aos, aot, aov, aow, aou, aox⟩ := asc;obtain ⟨aqo, rfl⟩ := ovE asd;have ase : ao6 2 = true := (aqr 2 rfl);have aqs : ao6 1 = true := (aqr 1 rfl);have avk : ao6 0 = true := (apv 1 0 rfl aqs);have aqt : ao6 10 = false := (unl apv (i := 3) (j := 10) rfl aqq);have aqu : ao6 11 = false := (unl apv (i := 3) (j := 11) rfl aqq);have asf : aqo 65 = S (showI d1) := aol aqs;have asg : aqo 66 = S (showI (n1 % d1)) := aom ase;have avl := bz kx;have aqv : Blk aqp (w.heap.size) 25 #[S (showI n1), S (showI d1)] := aov aqt;have avm := bt aqv;have aqw : Blk aqp (r8.heap.size) 25 #[S (showI n2), S (showI d2)] := aou aqu
 have avn := bt aqw;refine l_op (k_build (vs := [(0, S (showI d1)), (1, S (showI (n1 % d1)))]) (cells := #[S (showI d1), S (showI (n1 % d1))]) (pl := [(0, 1), (1, 1)]) U36 inf36 (by kernel_rfl) (cons_eqp asf (cons_eqp asg rfl)) (by kernel_rfl) ?_);refine go ?_;exact ⟨rfl, _, (act_put _ _ _ _ _).symm, (same_upd rfl asd), kx, om, sc, aol, aom, (fun _ => rfl), aoo, aop, aoq, aor, aos, aot, (fun avo => aqv), (fun ash => ff aqt ash), (fun avp => aqw), (fun asi => ff aqu asi)⟩;refine ⟨fun avq asj apw ask apx aqx avr => ?_, ?_⟩;obtain ⟨aqy, kx, zst, sc, aol, aom, aon, aoo, aop, aoq, aor, aos, aot, aov, aow, aou, aox⟩ := ask;obtain ⟨avq, rfl⟩ := ovE aqy;have asl : apw 5 = false := (unl apx (i := 4) (j := 5) rfl aqx);have aqz : apw 11 = false := (unl apx (i := 4) (j := 11) rfl aqx);have avs : apw 7 = false := (unl apx (i := 5) (j := 7) rfl asl);have avt := bz kx;have aq0 : Blk asj (r8.heap.size) 25 #[S (showI n2), S (showI d2)] := aou aqz;have avu := bt aq0;refine go ?_;exact ⟨rfl, _, (act_put _ _ _ _ _).symm, (same_upd rfl aqy), kx, om, sc, aol, aom, aon, (fun _ => rfl), aop, aoq, aor, aos, aot, (fun asm => aov asm), (fun aso => aow aso), (fun avv => aq0), (fun asp => ff aqz asp)⟩;refine ⟨fun asq asr apy ass aq1 aq2 ast => ?_, ?_⟩;obtain ⟨asu, kx, zst, sc, aol, aom, aon, aoo, aop, aoq, aor, aos, aot, aov, aow, aou, aox⟩ := ass;obtain ⟨asq, rfl⟩ := ovE asu;have asv : apy 4 = true := (ast 4 rfl);have avw : apy 7 = false := (unl aq1 (i := 5) (j := 7) rfl aq2)
 have aq3 : apy 11 = false := (unl aq1 (i := 5) (j := 11) rfl aq2);have asw : asq 68 = .pointer (some ⟨r8.heap.size, 1, none⟩) := aoo asv;have avx := bz kx;have apz : Blk asr (r8.heap.size) 25 #[S (showI n2), S (showI d2)] := aou aq3;have avy := bt apz;refine go ?_;exact ⟨rfl, _, (act_put _ _ _ _ _).symm, (same_upd rfl asu), kx, om, sc, aol, aom, aon, aoo, (fun _ => rfl), aoq, aor, aos, aot, (fun asx => aov asx), (fun asy => aow asy), (fun avz => apz), (fun asz => ff aq3 asz)⟩;refine ⟨fun av0 as0 aq4 as1 aq5 aq6 av1 => ?_, ?_⟩;obtain ⟨aq7, kx, zst, sc, aol, aom, aon, aoo, aop, aoq, aor, aos, aot, aov, aow, aou, aox⟩ := as1;obtain ⟨av0, rfl⟩ := ovE aq7;have av2 : aq4 7 = false := (unl aq5 (i := 6) (j := 7) rfl aq6);have aq8 : aq4 11 = false := (unl aq5 (i := 6) (j := 11) rfl aq6);have av3 := bz kx;have aq9 : Blk as0 (r8.heap.size) 25 #[S (showI n2), S (showI d2)] := aou aq8;have av4 := bt aq9;refine go ?_;exact ⟨rfl, _, (act_put _ _ _ _ _).symm, (same_upd rfl aq7), kx, om, sc, aol, aom, aon, aoo, aop, (fun _ => rfl), aor, aos, aot, (fun as2 => aov as2), (fun as3 => aow as3), (fun av5 => aq9), (fun as4 => ff aq8 as4)⟩;refine ⟨fun ara as5 ape as6 arb as7 arc => ?_, ?_⟩;obtain ⟨as8, kx, zst, sc, aol, aom, aon, aoo, aop, aoq, aor, aos, aot, aov, aow, aou, aox⟩ := as6;obtain ⟨ara, rfl⟩ := ovE as8;have as9 : ape 6 = true := (arc 6 rfl);have ard : ape 5 = true := (arc 5 rfl);have av6 : ape 4 = true := (arb 5 4 rfl ard);have arf : ape 11 = false := (unl arb (i := 7) (j := 11) rfl as7)
 have ata : ara 69 = S (showI d2) := aop ard;have atb : ara 70 = S (showI (n2 % d2)) := aoq as9;have av7 := bz kx;have arh : Blk as5 (r8.heap.size) 25 #[S (showI n2), S (showI d2)] := aou arf;have av8 := bt arh;refine l_op (k_build (vs := [(0, S (showI d2)), (1, S (showI (n2 % d2)))]) (cells := #[S (showI d2), S (showI (n2 % d2))]) (pl := [(0, 1), (1, 1)]) U36 inf36 (by kernel_rfl) (cons_eqp ata (cons_eqp atb rfl)) (by kernel_rfl) ?_);refine go ?_;exact ⟨rfl, _, (act_put _ _ _ _ _).symm, (same_upd rfl as8), kx, om, sc, aol, aom, aon, aoo, aop, aoq, (fun _ => rfl), aos, aot, (fun atc => aov atc), (fun atd => aow atd), (fun av9 => arh), (fun ate => ff arf ate)⟩;refine ⟨fun awa awb atf atg ath ati awc => ?_, ?_⟩;obtain ⟨ari, kx, zst, sc, aol, aom, aon, aoo, aop, aoq, aor, aos, aot, aov, aow, aou, aox⟩ := atg;obtain ⟨awa, rfl⟩ := ovE ari;have awd : atf 9 = false := (unl ath (i := 8) (j := 9) rfl ati);have awe := bz kx;refine go ?_;exact ⟨rfl, _, (act_put _ _ _ _ _).symm, (same_upd rfl ari), kx, om, sc, aol, aom, aon, aoo, aop, aoq, aor, (fun _ => rfl), aot, (fun atj => aov atj), (fun atk => aow atk), (fun atl => aou atl), (fun atm => aox atm)⟩;refine ⟨fun atn awf ato atp awg awh atq => ?_, ?_⟩;obtain ⟨atr, kx, zst, sc, aol, aom, aon, aoo, aop, aoq, aor, aos, aot, aov, aow, aou, aox⟩ := atp;obtain ⟨atn, rfl⟩ := ovE atr;have att : ato 8 = true := (atq 8 rfl);have atu : atn 72 = .int .i64 (sg) := aos att;have awi := bz kx;refine l_op (k_neg (a := sg) atu (by unfold In64; omega) ?_)
 refine go ?_;exact ⟨rfl, _, (act_put _ _ _ _ _).symm, (same_upd rfl atr), kx, om, sc, aol, aom, aon, aoo, aop, aoq, aor, aos, (fun _ => rfl), (fun atv => aov atv), (fun atw => aow atw), (fun atx => aou atx), (fun aty => aox aty)⟩;refine ⟨fun atz arj ao7 at0 apf ark at1 => ?_, ?_⟩;obtain ⟨arl, kx, zst, sc, aol, aom, aon, aoo, aop, aoq, aor, aos, aot, aov, aow, aou, aox⟩ := at0;obtain ⟨atz, rfl⟩ := ovE arl;have ap0 : ao7 3 = true := (at1 3 rfl);have awj : ao7 2 = true := (apf 3 2 rfl ap0);have at2 : ao7 1 = true := (apf 3 1 rfl ap0);have awk : ao7 0 = true := (apf 1 0 rfl at2);have arm : ao7 11 = false := (unl apf (i := 10) (j := 11) rfl ark);have at3 : atz 67 = .agg #[S (showI d1), S (showI (n1 % d1))] := aon ap0;have awl := bz kx;have arn : Blk arj (w.heap.size) 25 #[S (showI n1), S (showI d1)] := aov ark;have awm := bt arn;have apg : Blk arj (r8.heap.size) 25 #[S (showI n2), S (showI d2)] := aou arm;have awn := bt apg;refine SA arn (fun awo ap1 at4 => ?_);have apg := pb ap1 apg;have kx := plw ap1 kx;have awp := psz ap1;refine go ?_;exact ⟨rfl, undef, rfl, arl, kx, om, sc, aol, aom, aon, aoo, aop, aoq, aor, aos, aot, (fun at6 => tf rfl at6), (fun awq => at4), (fun awr => apg), (fun at7 => ff arm at7)⟩;refine ⟨fun at8 aro ao1 at9 ao3 aua arp => ?_, ?_⟩;obtain ⟨arq, kx, zst, sc, aol, aom, aon, aoo, aop, aoq, aor, aos, aot, aov, aow, aou, aox⟩ := at9;obtain ⟨at8, rfl⟩ := ovE arq;have ap2 : ao1 10 = true := (arp 10 rfl)
 have arr : ao1 3 = true := (ao3 10 3 rfl ap2);have aws : ao1 2 = true := (ao3 3 2 rfl arr);have aub : ao1 1 = true := (ao3 3 1 rfl arr);have awt : ao1 0 = true := (ao3 1 0 rfl aub);have ap3 : ao1 7 = true := (arp 7 rfl);have awu : ao1 6 = true := (ao3 7 6 rfl ap3);have auc : ao1 5 = true := (ao3 7 5 rfl ap3);have awv : ao1 4 = true := (ao3 5 4 rfl auc);have aud : at8 71 = .agg #[S (showI d2), S (showI (n2 % d2))] := aor ap3;have aww := bz kx;have aph : Blk aro (w.heap.size) 25 #[S (showI d1), S (showI (n1 % d1))] := aow ap2;have awx := bt aph;have ars : Blk aro (r8.heap.size) 25 #[S (showI n2), S (showI d2)] := aou aua;have awy := bt ars;refine SA ars (fun awz ap4 aue => ?_);have aph := pb ap4 aph;have kx := plw ap4 kx;have aw0 := psz ap4;refine go ?_;exact ⟨rfl, undef, rfl, arq, kx, om, sc, aol, aom, aon, aoo, aop, aoq, aor, aos, aot, (fun auf => tf ap2 auf), (fun aw1 => aph), (fun aug => tf rfl aug), (fun aw2 => aue)⟩;exact trivial;intro auh art aw3 ap5 aui;obtain ⟨aw4, kx, zst, sc, aol, aom, aon, aoo, aop, aoq, aor, aos, aot, aov, aow, aou, aox⟩ := aui;obtain ⟨auh, rfl⟩ := ovE aw4;have aw5 := bz kx;have aru : Blk art (w.heap.size) 25 #[S (showI d1), S (showI (n1 % d1))] := aow (ap5 10 rfl);have aw6 := bt aru;have arv : Blk art (r8.heap.size) 25 #[S (showI d2), S (showI (n2 % d2))] := aox (ap5 11 rfl);have aw7 := bt arv;have auj : auh 73 = .int .i64 (-sg) := (aot (ap5 9 rfl));refine go ?_;exact lend (hk := by have := Int.emod_lt_of_pos n1 p1; have := Int.emod_nonneg n1 (Int.ne_of_gt p1); omega) ⟨d1, n1 % d1, d2, n2 % d2, -sg, rfl, rfl, (cp_go hi p1 p2 ao0 aoy ao5).2.1, (cp_go hi p1 p2 ao0 aoy ao5).2.2, fd1, (fz_mod fd1 p1), fd2, (fz_mod fd2 p2), om, (cp_go hi p1 p2 ao0 aoy ao5).1, kx, aru, arv⟩
 refine go ?_;refine l_op (k_mul (a := sg) (b := cmpI (n1 / d1) (n2 / d2)) (c := sg * cmpI (n1 / d1) (n2 / d2)) rfl rfl (in64_sg hsg) rfl ?_);refine go ?_;exact f_ret1 (t := 4) (v := .int .i64 (sg * cmpI (n1 / d1) (n2 / d2))) rfl kx (congrArg (Value.int .i64) (cp_ne hi p1 p2 ao0)) rfl
end Go.Proofs.YtjijfnggomhpiaaGreatDoor
namespace Go.Proofs.YtjijfnggomhpiaaGreatDoor
set_option maxRecDepth 100000
open Go Go.Eng Go.RowKit
attribute [local irreducible] wpListIn Code.wpIn Oper.wpIn Exit.then Exit.inBlock Exit.noGoto
set_option maxHeartbeats 40000000
theorem itoa_int (n : Int) : Lib.itoa n = showI n := by
  unfold Lib.itoa showI
  split
  · rw [decDigits_showN]
  · rw [decDigits_showN]; congr 1; omega
def qR (a b : Int) : R := (showI (redN a b), showI (redD a b))
theorem makeR_q {a b : Int} (hb : b ≠ 0) : makeR a b = some (qR a b) := by unfold makeR; rw [if_neg hb]; rfl
section
variable {w : World} {b : Nat} {x y : Int} {l m : List UInt8}
theorem wMul_ok (hB : Blk w b 61 #[.bool false]) (ht : Tb w) (hl : l = showI x) (hm : m = showI y) (fx : Fz x) (fy : Fz y) (fz : Fz (x * y)) :
    Calls Tryz.prog 39 #[.pointer (some ⟨b, 0, none⟩), S l, S m] w (RetA fun v w' => w.grownBy w' (some b) ∧ Blk w' b 61 #[.bool false] ∧ v = S (showI (x * y))) := by
  have h := mul_ok hB ht l m
  subst hl hm
  rw [mulI_Z fx fy fz] at h
  exact h
theorem wAdd_ok (hB : Blk w b 61 #[.bool false]) (ht : Tb w) (hl : l = showI x) (hm : m = showI y) (fx : Fz x) (fy : Fz y) (fz : Fz (x + y)) :
    Calls Tryz.prog 89 #[.pointer (some ⟨b, 0, none⟩), .func (.func 63) #[] #[], S l, S m] w (RetA fun v w' => w.grownBy w' (some b) ∧ Blk w' b 61 #[.bool false] ∧ v = S (showI (x + y))) := by
  have h := do_ok (o := addI l m) hB ht en222 (fun W hW => iAdd_ok _ _ W hW)
  subst hl hm
  rw [addI_Z fx fy fz] at h
  exact h
theorem wRed_ok (hB : Blk w b 61 #[.bool false]) (ht : Tb w) (hl : l = showI x) (hm : m = showI y) (fx : Fz x) (fy : Fz y) (h0 : y ≠ 0) :
    Calls Tryz.prog 40 #[.pointer (some ⟨b, 0, none⟩), S l, S m] w (RetA fun v w' => w.grownBy w' (some b) ∧ (∃ q, Blk w' b 61 #[.bool q]) ∧ v = .tuple #[.agg #[S (qR x y).1, S (qR x y).2], .int .i64 0]) := by
  have h := red_ok hB ht l m
  subst hl hm
  rw [redW_spec fx.int fy.int, valZ_showI, valZ_showI, makeR_q h0] at h
  exact h
theorem wCk_ok (hB : Blk w b 61 #[.bool false]) (ht : Tb w) {x y : List UInt8} {A : Option Addr} {n c lo : Nat} (hr : Rw w lo A [S x, S y]) (hn : 1 = n) (hAb : ∀ ad, A = some ad → ad.block ≠ b) (ho : okR (x, y) = true) :
    Calls Tryz.prog 38 #[.pointer (some ⟨b, 0, none⟩), .slice A n c] w (RetA fun v w' => w.grownBy w' (some b) ∧ Blk w' b 61 #[.bool false] ∧ v = .tuple #[]) := by
  have h := check_ok (rs := [(x, y)]) (c := c) hB ht hr hn om hAb
  rw [show ckB false [(x, y)] = false by simp [ckB, ho]] at h
  exact h
end
def rdI (N D t : Int) (up : Bool) : Int := if up = true ∧ ¬ showI (N * t % D) = [48] then N * t / D + 1 else N * t / D
def Qv (a b : Int) : Value := .tuple #[.agg #[S (qR a b).1, S (qR a b).2], .int .i64 0]
theorem rd_1 {N D t : Int} {up : Bool} (h : up = true) (h0 : ¬ showI (N * t % D) = [48]) : Qv (N * t / D + 1) t = Qv (rdI N D t up) t := by unfold rdI; rw [if_pos ⟨h, h0⟩]
theorem rd_0 {N D t : Int} {up : Bool} (h0 : showI (N * t % D) = [48]) : Qv (N * t / D) t = Qv (rdI N D t up) t := by unfold rdI; rw [if_neg (fun e => e.2 h0)]
theorem rd_d {N D t : Int} {up : Bool} (h : up = false) : Qv (N * t / D) t = Qv (rdI N D t up) t := by unfold rdI; rw [if_neg (fun e => by rw [h] at e; exact absurd e.1 dc)]
theorem fz_inc {N D : Int} (h : N.natAbs < 10 ^ 199) (hd : 0 < D) : Fz (N / D + 1) := by
  have h1 : Fz (N / D) := fz_div (by unfold Fz; omega) hd
  have h2 : (N / D).natAbs < 10 ^ 199 := by
    rcases Int.le_total 0 N with h0 | h0
    · have h1 := Int.ediv_nonneg h0 (Int.le_of_lt hd)
      have h2 := Int.ediv_le_self (b := D) h0
      omega
    · have h1 : N / D ≤ 0 := Int.ediv_nonpos_of_nonpos_of_neg h0 hd
      have h2 : N ≤ N / D := by
        refine Int.le_ediv_of_mul_le hd ?_
        have h7 : 0 ≤ (-N) * (D - 1) := Int.mul_nonneg om om
        rw [Int.neg_mul, Int.mul_sub, Int.mul_one] at h7
        omega
      omega
  unfold Fz; omega
theorem rMakeZ_ok {l m : List UInt8} {a b : Int} {w : World} (hl : l = showI a) (hm : m = showI b) (fa : Fz a) (fb : Fz b) (h0 : b ≠ 0) (ht : Tb w) :
    Calls Tryz.prog 54 #[S (l), S (m)] w (Ret w fun v w' => v = .tuple #[.agg #[S ((qR a b).1), S ((qR a b).2)], .int .i64 (0)]) := by
 subst hl hm;have ib : (!isInt (showI b)) = false := by rw [fb.int]; rfl
 refine f_in Tryz.func54 rfl ?_;refine go ?_;refine al inf36 (fun aow aoq r8 => ?_);have ht := Tb.ext aoq.2 ht;have kx := aoq.2;refine go ?_;refine cl en102 (iValid_ok (showI a) _) ?_;rintro aox aoy aon rfl;have ht := Tb.ext aon.2 ht;have r8 := be aon.2 r8;have kx := xt kx aon.2;refine go ?_;refine l_want (s := 10) rfl (congrArg Value.bool (congrArg Bool.not fa.int)) ?_;refine go ?_;refine l_want (s := 10) rfl (congrArg Value.bool (congrArg Bool.not fa.int)) ?_;refine cl en102 (iValid_ok (showI b) _) ?_;rintro aoz sc aoo rfl;have ht := Tb.ext aoo.2 ht;have r8 := be aoo.2 r8;have kx := xt kx aoo.2;refine l_want (s := 10) rfl (congrArg Value.bool (congrArg Bool.not fa.int)) ?_;refine go ?_;refine l_op (k_pick (t := false) (v := .bool (!(isInt (showI b)))) (congrArg Value.bool (congrArg Bool.not fa.int)) rfl ?_);refine l_op (k_build (vs := [(0, .bool (!(isInt (showI b))))]) (cells := #[.bool (!(isInt (showI b)))]) (pl := [(0, 1)]) U235 inf235 (by kernel_rfl) rfl (by kernel_rfl) ?_);refine bx (fun aot aop aou => ?_);have ht := Tb.ext aop.2 ht;have r8 := be aop.2 r8;have kx := xt kx aop.2;refine go ?_;have aor : Blk aot (sc.heap.size) 61 #[.bool false] := by have h := aou; rw [ib] at h; exact h
 refine go ?_;refine l_op (k_callA (vs := [.pointer (some ⟨sc.heap.size, 0, none⟩), S (showI a), S (showI b)]) en225 rfl (wRed_ok aor ht rfl rfl fa fb h0) ?_);rintro ao0 ao1 ⟨aol, ⟨ao2, aos⟩, rfl⟩;have r8 := Blk.gr aol (by simp; omega) r8;have kx := low_gr kx aol (bz kx) (fun g hgg => by cases hgg; omega);have ao3 := aol.size;refine go ?_;refine SA r8 (fun ao4 aom aov => ?_);have aos := pb aom aos;have kx := plw aom kx;have ao5 := psz aom;refine go ?_;refine f_out (v := .tuple #[.agg #[S ((qR a b).1), S ((qR a b).2)], .int .i64 (0)]) (res2 (r1 := .cell 4 25) (r2 := .tmp 5) rfl ?_ ?_) kx rfl;refine res_cellA (t := 4) (cs := [S ((qR a b).1), S ((qR a b).2)]) (b := w.heap.size) (o := 0) U36 rfl sz36 ?_ ?_;exact rfl;exact Blk.cells aov (i := 0) rfl;exact res_tmp (t := 5) (by exact rfl) _
theorem fromZ_ok {n : Int} {w : World} (hn : In64 n) (ht : Tb w) :
    Calls Tryz.prog 82 #[.int .i64 (n)] w (Ret w fun v w' => v = S (showI n)) := by
 have h1 : -9223372036854775808 ≤ n := by unfold In64 at hn; omega
 have h2 : n ≤ 9223372036854775807 := by unfold In64 at hn; omega
 refine f_in Tryz.func82 rfl ?_;refine go ?_;refine cl en131 (cEq (Y := S (showI n)) (itoa_ok _ _ h1 h2 (ht.ext (Ext.refl _))) (congrArg S (itoa_int n))) ?_;rintro sc aol kx rfl;have r8 := kx.2;refine go ?_;exact f_ret1 (t := 2) (v := S (showI n)) rfl r8 rfl rfl
theorem fz64 {n : Int} (h : In64 n) : Fz n := by unfold In64 at h; unfold Fz; omega
theorem rOfZ_ok {a b : Int} {w : World} (ha : In64 a) (hb : In64 b) (h0 : b ≠ 0) (ht : Tb w) :
    Calls Tryz.prog 33 #[.int .i64 (a), .int .i64 (b)] w (Ret w fun v w' => v = .tuple #[.agg #[S ((qR a b).1), S ((qR a b).2)], .int .i64 (0)]) := by
 refine f_in Tryz.func33 rfl ?_;refine go ?_;refine al inf36 (fun aoq aoo r8 => ?_);have kx := aoo.2;refine go ?_;refine cl en1067 (fromZ_ok ha (ht.ext kx)) ?_;rintro aor aos sc rfl;have r8 := be sc.2 r8;have kx := xt kx sc.2;refine go ?_;refine cl en1067 (fromZ_ok hb (ht.ext kx)) ?_;rintro aot aou aol rfl;have r8 := be aol.2 r8;have kx := xt kx aol.2;refine cl en1046 (rMakeZ_ok rfl rfl (fz64 ha) (fz64 hb) h0 (ht.ext kx)) ?_;rintro aov aow aom rfl;have r8 := be aom.2 r8;have kx := xt kx aom.2;refine go ?_;refine SA r8 (fun aox aon aop => ?_);have kx := plw aon kx;have aoy := psz aon;refine go ?_;refine f_out (v := .tuple #[.agg #[S ((qR a b).1), S ((qR a b).2)], .int .i64 (0)]) (res2 (r1 := .cell 4 25) (r2 := .tmp 5) rfl ?_ ?_) kx rfl;refine res_cellA (t := 4) (cs := [S ((qR a b).1), S ((qR a b).2)]) (b := w.heap.size) (o := 0) U36 rfl sz36 ?_ ?_;exact rfl;exact Blk.cells aop (i := 0) rfl;exact res_tmp (t := 5) (by exact rfl) _
theorem rRound_ok {N D : Int} {pl : Nat} {up : Bool} {w : World} (ho : okR (showI N, showI D) = true) (fN : Fz N) (fD : Fz D) (hp : pl ≤ 30) (hNT : (N * ((10 ^ pl : Nat) : Int)).natAbs < 10 ^ 199) (ht : Tb w) :
    Calls Tryz.prog 133 #[.agg #[S (showI N), S (showI D)], .int .i64 pl, .bool (up)] w (Ret w fun v w' => v = Qv (rdI N D (((10 ^ pl : Nat) : Int)) up) (((10 ^ pl : Nat) : Int))) := by
 have h10 : ((10 ^ pl : Nat) : Int) ≠ 0 := by have := Nat.pow_pos (n := pl) (show 0 < 10 by decide); omega
 have pD : 0 < D := by have := okR_pos ho; rwa [valZ_showI] at this
 have fNT : Fz (N * ((10 ^ pl : Nat) : Int)) := (by unfold Fz; omega);have ao4 : pl < 200 := om;have fT : Fi (10 ^ pl) := Nat.pow_lt_pow_right dc om;refine f_in Tryz.func133 rfl ?_;refine go ?_;refine bx (fun aon ao9 r8 => ?_);have ht := Tb.ext ao9.2 ht;have kx := ao9.2;refine al inf36 (fun aol ao8 sc => ?_);have ht := Tb.ext ao8.2 ht;have r8 := be ao8.2 r8;have kx := xt kx ao8.2;refine go ?_;refine l_op (k_build (vs := [(0, .bool (decide (30 < (pl : Int))))]) (cells := #[.bool (decide (30 < (pl : Int)))]) (pl := [(0, 1)]) U235 inf235 (by kernel_rfl) rfl (by kernel_rfl) ?_);refine bx (fun apa ao5 apf => ?_);have ht := Tb.ext ao5.2 ht;have r8 := be ao5.2 r8;have sc := be ao5.2 sc;have kx := xt kx ao5.2;refine go ?_;have ao6 : Blk apa (aol.heap.size) 61 #[.bool false] := by have h := apf; rw [decide_eq_false om] at h; exact h
 refine go ?_;refine BS (fun apk aoo apl apg => ?_);have ht := Tb.ext aoo ht;have r8 := be aoo r8;have sc := be aoo sc;have ao6 := be aoo ao6;have kx := xt kx aoo;have apm := bz aoo;refine l_op (k_callA (vs := [.pointer (some ⟨aol.heap.size, 0, none⟩), .slice (some ⟨apa.heap.size, 0, none⟩) (1) (1)]) en223 rfl (wCk_ok ao6 ht (Rw.of_own apg) rfl (fun ad e => by cases e; simp; omega) ho) ?_);rintro apn apo ⟨aoq, aor, rfl⟩;have ht := Tb.gr aoq ao6 dc ht;have r8 := Blk.gr aoq (by simp; omega) r8;have sc := Blk.gr aoq (by simp; omega) sc;have kx := low_gr kx aoq (bz kx) (fun g hgg => by cases hgg; omega);have apq := aoq.size;refine go ?_;refine clb en132 (hc := repeat_ok [48] pl _ om dc) (hk := ?_);rintro apr aps aos rfl;have ht := Tb.ext aos.2 ht;have r8 := be aos.2 r8;have sc := be aos.2 sc;have aor := be aos.2 aor;have kx := xt kx aos.2;refine l_op (k_addS (a := [49]) (b := Lib.repeatL [48] pl) rfl rfl (by rw [zeros_str]; simp; omega) ?_);refine go ?_;refine l_op (k_callA (vs := [.pointer (some ⟨aol.heap.size, 0, none⟩), S (showI N), S (([49]) ++ (Lib.repeatL [48] pl))]) en224 rfl (wMul_ok aor ht rfl (one_str ao4) fN fT.z fNT) ?_);rintro apt apu ⟨aot, aou, rfl⟩;have ht := Tb.gr aot aor dc ht;have r8 := Blk.gr aot (by simp; omega) r8;have sc := Blk.gr aot (by simp; omega) sc;have kx := low_gr kx aot (bz kx) (fun g hgg => by cases hgg; omega);have apv := aot.size;refine go ?_;refine cl en83 (cEq (Y := .tuple #[S (showI (N * (((10 ^ pl : Nat) : Int)) / D)), S (showI (N * (((10 ^ pl : Nat) : Int)) % D)), .int .i64 (0)]) (iDiv_ok _ _ _ ht) (congrArg resD (divI_Z fNT fD (Int.ne_of_gt pD) (fz_div fNT pD)))) ?_
 rintro apw apx aov rfl;have ht := Tb.ext aov.2 ht;have r8 := be aov.2 r8;have sc := be aov.2 sc;have aou := be aov.2 aou;have kx := xt kx aov.2;refine go ?_;refine SO aou (fun apy aow aop => ?_);have ht := Tb.put aow (aou) dc ht;have r8 := pb aow r8;have sc := pb aow sc;have kx := plw aow kx;have apz := psz aow;refine go ?_;rcases Bool.eq_false_or_eq_true (up) with aom | aom;refine go ?_;refine nes (b := [48]) ?_;refine go ?_;by_cases ao7 : (showI (N * (((10 ^ pl : Nat) : Int)) % D)) = ([48]);refine go ?_;refine l_op (k_callA (vs := [.pointer (some ⟨aol.heap.size, 0, none⟩), S (showI (N * (((10 ^ pl : Nat) : Int)) / D)), S (([49]) ++ (Lib.repeatL [48] pl))]) en225 rfl (wRed_ok aop ht rfl (one_str ao4) (fz_div fNT pD) fT.z h10) ?_);rintro ap0 ap1 ⟨aox, ⟨ap2, apb⟩, rfl⟩;have r8 := Blk.gr aox (by simp; omega) r8;have sc := Blk.gr aox (by simp; omega) sc;have kx := low_gr kx aox (bz kx) (fun g hgg => by cases hgg; omega);have ap3 := aox.size;refine go ?_;refine SA sc (fun ap4 aoy aph => ?_);have r8 := pb aoy r8;have apb := pb aoy apb;have kx := plw aoy kx;have ap5 := psz aoy;refine go ?_;refine f_out (v := .tuple #[.agg #[S ((qR (N * (((10 ^ pl : Nat) : Int)) / D) (((10 ^ pl : Nat) : Int))).1), S ((qR (N * (((10 ^ pl : Nat) : Int)) / D) (((10 ^ pl : Nat) : Int))).2)], .int .i64 (0)]) (res2 (r1 := .cell 6 25) (r2 := .tmp 7) rfl ?_ ?_) kx (rd_0 ao7)
 refine res_cellA (t := 6) (cs := [S ((qR (N * (((10 ^ pl : Nat) : Int)) / D) (((10 ^ pl : Nat) : Int))).1), S ((qR (N * (((10 ^ pl : Nat) : Int)) / D) (((10 ^ pl : Nat) : Int))).2)]) (b := aon.heap.size) (o := 0) U36 rfl sz36 ?_ ?_;exact rfl;exact Blk.cells aph (i := 0) rfl;exact res_tmp (t := 7) (by exact rfl) _;refine go ?_;refine l_op (k_callA (vs := [.pointer (some ⟨aol.heap.size, 0, none⟩), .func (.func 63) #[] #[], S (showI (N * (((10 ^ pl : Nat) : Int)) / D)), S ([49])]) en227 rfl (wAdd_ok aop ht rfl lit1 (fz_div fNT pD) (by unfold Fz; decide) (fz_inc hNT pD)) ?_);rintro ap6 ap7 ⟨aoz, apc, rfl⟩;have ht := Tb.gr aoz aop dc ht;have r8 := Blk.gr aoz (by simp; omega) r8;have sc := Blk.gr aoz (by simp; omega) sc;have kx := low_gr kx aoz (bz kx) (fun g hgg => by cases hgg; omega);have ap8 := aoz.size;refine go ?_;refine l_op (k_callA (vs := [.pointer (some ⟨aol.heap.size, 0, none⟩), S (showI (N * (((10 ^ pl : Nat) : Int)) / D + 1)), S (([49]) ++ (Lib.repeatL [48] pl))]) en225 rfl (wRed_ok apc ht rfl (one_str ao4) (fz_inc hNT pD) fT.z h10) ?_);rintro ap9 aqa ⟨ao0, ⟨aqb, apd⟩, rfl⟩;have r8 := Blk.gr ao0 (by simp; omega) r8;have sc := Blk.gr ao0 (by simp; omega) sc;have kx := low_gr kx ao0 (bz kx) (fun g hgg => by cases hgg; omega);have aqc := ao0.size;refine go ?_;refine SA sc (fun aqd ao1 api => ?_);have r8 := pb ao1 r8;have apd := pb ao1 apd;have kx := plw ao1 kx;have aqe := psz ao1;refine go ?_
 refine f_out (v := .tuple #[.agg #[S ((qR (N * (((10 ^ pl : Nat) : Int)) / D + 1) (((10 ^ pl : Nat) : Int))).1), S ((qR (N * (((10 ^ pl : Nat) : Int)) / D + 1) (((10 ^ pl : Nat) : Int))).2)], .int .i64 (0)]) (res2 (r1 := .cell 6 25) (r2 := .tmp 7) rfl ?_ ?_) kx (rd_1 aom ao7);refine res_cellA (t := 6) (cs := [S ((qR (N * (((10 ^ pl : Nat) : Int)) / D + 1) (((10 ^ pl : Nat) : Int))).1), S ((qR (N * (((10 ^ pl : Nat) : Int)) / D + 1) (((10 ^ pl : Nat) : Int))).2)]) (b := aon.heap.size) (o := 0) U36 rfl sz36 ?_ ?_;exact rfl;exact Blk.cells api (i := 0) rfl;exact res_tmp (t := 7) (by exact rfl) _;refine go ?_;refine l_op (k_callA (vs := [.pointer (some ⟨aol.heap.size, 0, none⟩), S (showI (N * (((10 ^ pl : Nat) : Int)) / D)), S (([49]) ++ (Lib.repeatL [48] pl))]) en225 rfl (wRed_ok aop ht rfl (one_str ao4) (fz_div fNT pD) fT.z h10) ?_);rintro aqf aqg ⟨ao2, ⟨aqh, ape⟩, rfl⟩;have r8 := Blk.gr ao2 (by simp; omega) r8;have sc := Blk.gr ao2 (by simp; omega) sc;have kx := low_gr kx ao2 (bz kx) (fun g hgg => by cases hgg; omega);have aqi := ao2.size;refine go ?_;refine SA sc (fun aqj ao3 apj => ?_);have r8 := pb ao3 r8;have ape := pb ao3 ape;have kx := plw ao3 kx;have aqk := psz ao3;refine go ?_;refine f_out (v := .tuple #[.agg #[S ((qR (N * (((10 ^ pl : Nat) : Int)) / D) (((10 ^ pl : Nat) : Int))).1), S ((qR (N * (((10 ^ pl : Nat) : Int)) / D) (((10 ^ pl : Nat) : Int))).2)], .int .i64 (0)]) (res2 (r1 := .cell 6 25) (r2 := .tmp 7) rfl ?_ ?_) kx (rd_d aom)
 refine res_cellA (t := 6) (cs := [S ((qR (N * (((10 ^ pl : Nat) : Int)) / D) (((10 ^ pl : Nat) : Int))).1), S ((qR (N * (((10 ^ pl : Nat) : Int)) / D) (((10 ^ pl : Nat) : Int))).2)]) (b := aon.heap.size) (o := 0) U36 rfl sz36 ?_ ?_;exact rfl;exact Blk.cells apj (i := 0) rfl;exact res_tmp (t := 7) (by exact rfl) _
theorem rDown_ok {N D : Int} {pl : Nat} {w : World} (ho : okR (showI N, showI D) = true) (fN : Fz N) (fD : Fz D) (hp : pl ≤ 30) (hNT : (N * ((10 ^ pl : Nat) : Int)).natAbs < 10 ^ 199) (ht : Tb w) :
    Calls Tryz.prog 85 #[.agg #[S (showI N), S (showI D)], .int .i64 pl] w (Ret w fun v w' => v = .tuple #[.agg #[S ((qR (rdI N D (((10 ^ pl : Nat) : Int)) false) (((10 ^ pl : Nat) : Int))).1), S ((qR (rdI N D (((10 ^ pl : Nat) : Int)) false) (((10 ^ pl : Nat) : Int))).2)], .int .i64 (0)]) := by
 refine f_in Tryz.func85 rfl ?_;refine go ?_;refine bx (fun aon aop r8 => ?_);have kx := aop.2;refine al inf36 (fun aor aoo sc => ?_);have r8 := be aoo.2 r8;have kx := xt kx aoo.2;refine go ?_;refine cl en1129 (rRound_ok ho fN fD hp hNT (ht.ext kx)) ?_;rintro aos aot aol rfl;have r8 := be aol.2 r8;have sc := be aol.2 sc;have kx := xt kx aol.2;refine go ?_;refine SA sc (fun aou aom aoq => ?_);have r8 := pb aom r8;have kx := plw aom kx;have aov := psz aom;refine go ?_;refine f_out (v := .tuple #[.agg #[S ((qR (rdI N D (((10 ^ pl : Nat) : Int)) false) (((10 ^ pl : Nat) : Int))).1), S ((qR (rdI N D (((10 ^ pl : Nat) : Int)) false) (((10 ^ pl : Nat) : Int))).2)], .int .i64 (0)]) (res2 (r1 := .cell 4 25) (r2 := .tmp 5) rfl ?_ ?_) kx rfl;refine res_cellA (t := 4) (cs := [S ((qR (rdI N D (((10 ^ pl : Nat) : Int)) false) (((10 ^ pl : Nat) : Int))).1), S ((qR (rdI N D (((10 ^ pl : Nat) : Int)) false) (((10 ^ pl : Nat) : Int))).2)]) (b := aon.heap.size) (o := 0) U36 rfl sz36 ?_ ?_;exact rfl;exact Blk.cells aoq (i := 0) rfl;exact res_tmp (t := 5) (by exact rfl) _
theorem rUp_ok {N D : Int} {pl : Nat} {w : World} (ho : okR (showI N, showI D) = true) (fN : Fz N) (fD : Fz D) (hp : pl ≤ 30) (hNT : (N * ((10 ^ pl : Nat) : Int)).natAbs < 10 ^ 199) (ht : Tb w) :
    Calls Tryz.prog 86 #[.agg #[S (showI N), S (showI D)], .int .i64 pl] w (Ret w fun v w' => v = .tuple #[.agg #[S ((qR (rdI N D (((10 ^ pl : Nat) : Int)) true) (((10 ^ pl : Nat) : Int))).1), S ((qR (rdI N D (((10 ^ pl : Nat) : Int)) true) (((10 ^ pl : Nat) : Int))).2)], .int .i64 (0)]) := by
 refine f_in Tryz.func86 rfl ?_;refine go ?_;refine bx (fun aon aop r8 => ?_);have kx := aop.2;refine al inf36 (fun aor aoo sc => ?_);have r8 := be aoo.2 r8;have kx := xt kx aoo.2;refine go ?_;refine cl en1129 (rRound_ok ho fN fD hp hNT (ht.ext kx)) ?_;rintro aos aot aol rfl;have r8 := be aol.2 r8;have sc := be aol.2 sc;have kx := xt kx aol.2;refine go ?_;refine SA sc (fun aou aom aoq => ?_);have r8 := pb aom r8;have kx := plw aom kx;have aov := psz aom;refine go ?_;refine f_out (v := .tuple #[.agg #[S ((qR (rdI N D (((10 ^ pl : Nat) : Int)) true) (((10 ^ pl : Nat) : Int))).1), S ((qR (rdI N D (((10 ^ pl : Nat) : Int)) true) (((10 ^ pl : Nat) : Int))).2)], .int .i64 (0)]) (res2 (r1 := .cell 4 25) (r2 := .tmp 5) rfl ?_ ?_) kx rfl;refine res_cellA (t := 4) (cs := [S ((qR (rdI N D (((10 ^ pl : Nat) : Int)) true) (((10 ^ pl : Nat) : Int))).1), S ((qR (rdI N D (((10 ^ pl : Nat) : Int)) true) (((10 ^ pl : Nat) : Int))).2)]) (b := aon.heap.size) (o := 0) U36 rfl sz36 ?_ ?_;exact rfl;exact Blk.cells aoq (i := 0) rfl;exact res_tmp (t := 5) (by exact rfl) _
end Go.Proofs.YtjijfnggomhpiaaGreatDoor
namespace Go.Proofs.YtjijfnggomhpiaaGreatDoor
open Go Go.Eng Go.RowKit
section
variable {n d : Int}
theorem gcd_pos (hd : 0 < d) : 0 < ((Int.gcd n d : Nat) : Int) := by have := Int.gcd_pos_of_ne_zero_right n (show d ≠ 0 by omega); omega
theorem rq_n (hd : 0 < d) : redN n d * ((Int.gcd n d : Nat) : Int) = n := by
  unfold redN; rw [if_neg (by omega)]; exact Int.ediv_mul_cancel (Int.gcd_dvd_left ..)
theorem rq_d (hd : 0 < d) : redD n d * ((Int.gcd n d : Nat) : Int) = d := by
  unfold redD; rw [if_neg (by omega)]; exact Int.ediv_mul_cancel (Int.gcd_dvd_right ..)
theorem rq_cross (hd : 0 < d) : redN n d * d = n * redD n d := by
  have h1 := rq_n (n := n) hd
  have h2 := rq_d (n := n) hd
  generalize redN n d = a at *
  generalize redD n d = b at *
  generalize ((Int.gcd n d : Nat) : Int) = g at *
  rw [← h1, ← h2, Int.mul_comm b g, Int.mul_assoc]
theorem rq_pos (hd : 0 < d) : 0 < redD n d := by
  have h2 := rq_d (n := n) hd
  have hg := gcd_pos (n := n) hd
  rcases Int.lt_or_le 0 (redD n d) with h | h
  · exact h
  · have := Int.mul_nonpos_of_nonpos_of_nonneg h (Int.le_of_lt hg); omega
theorem rq_le (hd : 0 < d) : redD n d ≤ d := by
  have h2 := rq_d (n := n) hd
  have hg := gcd_pos (n := n) hd
  have hp := rq_pos (n := n) hd
  have := Int.mul_le_mul_of_nonneg_left (show (1 : Int) ≤ ((Int.gcd n d : Nat) : Int) by omega) (Int.le_of_lt hp)
  omega
theorem rq_abs (hd : 0 < d) : (redN n d).natAbs ≤ n.natAbs := by
  have h2 := congrArg Int.natAbs (rq_n (n := n) hd)
  have hg := gcd_pos (n := n) hd
  rw [Int.natAbs_mul, Int.natAbs_natCast] at h2
  exact Nat.le_trans (Nat.le_mul_of_pos_right _ (by omega)) (Nat.le_of_eq h2)
theorem rq_gcd (hd : 0 < d) : Int.gcd (redN n d) (redD n d) = 1 := by
  have hg := gcd_pos (n := n) hd
  have e := Int.gcd_mul_right (redN n d) ((Int.gcd n d : Nat) : Int) (redD n d)
  rw [rq_n hd, rq_d hd, Int.natAbs_natCast] at e
  exact Nat.eq_of_mul_eq_mul_right (show 0 < Int.gcd n d by omega) (by omega)
theorem okR_z {a b : Int} (ha : Fz a) (hb : Fz b) (h0 : 0 < b) (hg : Int.gcd a b = 1) : okR (showI a, showI b) = true := by
  have e : gcdI (showI a) (showI b) = some [49] := by
    unfold gcdI; rw [if_pos (by rw [ha.int, hb.int]; rfl), valZ_showI, valZ_showI, hg]
    decide +kernel
  unfold okR
  simp only [ha.int, hb.int, e]
  rw [cmpS_zero hb.int, valZ_showI, decide_eq_false (by rw [cmpI_nonpos]; omega)]
  rfl
theorem fz_rn (hd : 0 < d) (h : Fz n) : Fz (redN n d) := Nat.lt_of_le_of_lt (rq_abs hd) h
theorem fz_rd (hd : 0 < d) (h : Fz d) : Fz (redD n d) := by have := rq_pos (n := n) hd; have := rq_le (n := n) hd; unfold Fz at *; omega
theorem okR_q (hd : 0 < d) (fn : Fz n) (fd : Fz d) : okR (qR n d) = true := okR_z (fz_rn hd fn) (fz_rd hd fd) (rq_pos hd) (rq_gcd hd)
end
theorem qR_cop {n d : Int} (hd : 0 < d) (hg : Int.gcd n d = 1) : qR n d = (showI n, showI d) := by
  unfold qR redN redD; rw [hg, if_neg (by omega), if_neg (by omega)]; simp
theorem dvd_gcd1 {a b c : Int} (h : a ∣ b * c) (hg : Int.gcd a c = 1) : a ∣ b := by
  have h1 : a.natAbs ∣ b.natAbs * c.natAbs := by rw [← Int.natAbs_mul]; exact Int.natAbs_dvd_natAbs.2 h
  exact Int.natAbs_dvd_natAbs.1 (Nat.Coprime.dvd_of_dvd_mul_right (show Nat.Coprime a.natAbs c.natAbs from hg) h1)
theorem red_uniq {a b c d : Int} (hb : 0 < b) (hd : 0 < d) (h1 : Int.gcd a b = 1) (h2 : Int.gcd c d = 1) (h : a * d = c * b) : a = c ∧ b = d := by
  have e1 : b ∣ d := by
    have : b ∣ d * a := ⟨c, by rw [Int.mul_comm d a, h, Int.mul_comm]⟩
    exact dvd_gcd1 this (by rw [Int.gcd_comm]; exact h1)
  have e2 : d ∣ b := by
    have : d ∣ b * c := ⟨a, by rw [Int.mul_comm b c, ← h, Int.mul_comm]⟩
    exact dvd_gcd1 this (by rw [Int.gcd_comm]; exact h2)
  have e := Int.dvd_antisymm (by omega) (by omega) e1 e2
  subst e
  exact ⟨Int.eq_of_mul_eq_mul_right (by omega) h, rfl⟩
theorem red_congr {a b c d : Int} (hb : 0 < b) (hd : 0 < d) (h : a * d = c * b) : redN a b = redN c d ∧ redD a b = redD c d := by
  have h1 := rq_cross (n := a) hb
  have h2 := rq_cross (n := c) hd
  refine red_uniq (rq_pos hb) (rq_pos hd) (rq_gcd hb) (rq_gcd hd) ?_
  have e : redN a b * redD c d * (b * d) = redN c d * redD a b * (b * d) := by
    calc redN a b * redD c d * (b * d) = (redN a b * b) * (redD c d * d) := by grind
      _ = (a * redD a b) * (redD c d * d) := by rw [h1]
      _ = (a * d) * (redD a b * redD c d) := by grind
      _ = (c * b) * (redD a b * redD c d) := by rw [h]
      _ = (c * redD c d) * (redD a b * b) := by grind
      _ = (redN c d * d) * (redD a b * b) := by rw [h2]
      _ = redN c d * redD a b * (b * d) := by grind
  exact Int.eq_of_mul_eq_mul_right (Int.ne_of_gt (Int.mul_pos hb hd)) e
theorem qR_congr {a b c d : Int} (hb : 0 < b) (hd : 0 < d) (h : a * d = c * b) : qR a b = qR c d := by
  obtain ⟨h1, h2⟩ := red_congr hb hd h
  unfold qR; rw [h1, h2]
theorem qR_inj {a b c d : Int} (hb : 0 < b) (hd : 0 < d) (h : qR a b = qR c d) : a * d = c * b := by
  unfold qR at h
  have e1 := showI_inj (congrArg Prod.fst h)
  have e2 := showI_inj (congrArg Prod.snd h)
  have h1 := rq_n (n := a) hb
  have h2 := rq_d (n := a) hb
  have h3 := rq_n (n := c) hd
  have h4 := rq_d (n := c) hd
  rw [← e1] at h3
  rw [← e2] at h4
  generalize redN a b = p at *
  generalize redD a b = q at *
  rw [← h1, ← h2, ← h3, ← h4]; grind
theorem sgn_mul_cmp {x y k : Int} (hk : 0 < k) : cmpI (x * k) (y * k) = cmpI x y := cmpI_iff ⟨fun h => Int.lt_of_mul_lt_mul_right h (Int.le_of_lt hk), fun h => Int.mul_lt_mul_of_pos_right h hk⟩ ⟨fun h => Int.eq_of_mul_eq_mul_right (by omega) h, fun h => by rw [h]⟩
theorem cmp_red {a b c d : Int} (hb : 0 < b) (hd : 0 < d) : cmpI (redN a b * redD c d) (redN c d * redD a b) = cmpI (a * d) (c * b) := by
  rw [← sgn_mul_cmp (Int.mul_pos (gcd_pos (n := a) hb) (gcd_pos (n := c) hd))]
  have h1 := rq_n (n := a) hb
  have h2 := rq_d (n := a) hb
  have h3 := rq_n (n := c) hd
  have h4 := rq_d (n := c) hd
  generalize redN a b = p at *
  generalize redD a b = q at *
  generalize redN c d = r at *
  generalize redD c d = s at *
  generalize ((Int.gcd a b : Nat) : Int) = g at *
  generalize ((Int.gcd c d : Nat) : Int) = k at *
  rw [← h1, ← h2, ← h3, ← h4, show p * s * (g * k) = p * g * (s * k) by grind, show r * q * (g * k) = r * k * (q * g) by grind]
theorem rCmpQ_ok {a b c d : Int} {w : World} (hb : 0 < b) (hd : 0 < d) (fa : Fz a) (fb : Fz b) (fc : Fz c) (fd : Fz d) (ht : Tb w) :
    Calls Tryz.prog 10 #[.agg #[S (qR a b).1, S (qR a b).2], .agg #[S (qR c d).1, S (qR c d).2]] w (Ret w fun v _ => v = .int .i64 (cmpI (a * d) (c * b))) :=
  cEq (rCmpZ_ok (okR_q hb fa fb) (okR_q hd fc fd) (fz_rn hb fa) (fz_rd hb fb) (fz_rn hd fc) (fz_rd hd fd) ht) (congrArg (Value.int .i64) (cmp_red hb hd))
theorem qR_val {a b : Int} : valZ (qR a b).1 = redN a b ∧ valZ (qR a b).2 = redD a b := ⟨valZ_showI _, valZ_showI _⟩
def Q9 (a b : Int) : Prop := a.natAbs < 10 ^ 90 ∧ 0 < b ∧ b < 10 ^ 90
theorem Q9.fz {a b : Int} (h : Q9 a b) : Fz a ∧ Fz b := by obtain ⟨h1, h2, h3⟩ := h; unfold Fz; omega
theorem Q9.red {a b : Int} (h : Q9 a b) : Q9 (redN a b) (redD a b) := ⟨Nat.lt_of_le_of_lt (rq_abs h.2.1) h.1, rq_pos h.2.1, by have := rq_le (n := a) h.2.1; have := h.2.2; omega⟩
theorem Q9.ok {a b : Int} (h : Q9 a b) : okR (qR a b) = true := okR_q h.2.1 h.fz.1 h.fz.2
theorem abs_mul {a b : Int} (ha : a.natAbs < 10 ^ 90) (hb : b.natAbs < 10 ^ 90) : (a * b).natAbs < 10 ^ 180 := by rw [Int.natAbs_mul]; exact mul_lt_pow ha hb
theorem fz_180 {a : Int} (h : a.natAbs < 10 ^ 180) : Fz a := by unfold Fz; omega
theorem both_q {n d c e : Int} (fn : Fz n) (fd : Fz d) (h : makeR n d = some (qR c e)) : bothF n d = some (qR c e) := by
  unfold bothF; rw [fn.fits, fd.fits]; exact h
theorem addR_q {a b c d : Int} (h1 : Q9 a b) (h2 : Q9 c d) : addR (qR a b) (qR c d) = some (qR (a * d + c * b) (b * d)) := by
  unfold addR
  rw [h1.ok, h2.ok, qR_val.1, qR_val.2, qR_val.1, qR_val.2]
  have r1 := h1.red
  have r2 := h2.red
  have m1 := abs_mul r1.1 (b := redD c d) (by have := r2.2; omega)
  have m2 := abs_mul r2.1 (b := redD a b) (by have := r1.2; omega)
  have m3 := abs_mul (a := redD a b) (b := redD c d) (by have := r1.2; omega) (by have := r2.2; omega)
  rw [(fz_180 m1).fits, (fz_180 m2).fits]
  have hp := Int.mul_pos r1.2.1 r2.2.1
  simp only [Bool.and_self, if_true]
  refine both_q (by unfold Fz; omega) (fz_180 m3) ?_
  rw [makeR_q (by omega)]
  congr 1
  refine qR_congr hp (Int.mul_pos h1.2.1 h2.2.1) ?_
  have e1 := rq_cross (n := a) h1.2.1
  have e2 := rq_cross (n := c) h2.2.1
  generalize redN a b = p at *
  generalize redD a b = q at *
  generalize redN c d = r at *
  generalize redD c d = s at *
  grind
theorem subR_q {a b c d : Int} (h1 : Q9 a b) (h2 : Q9 c d) : subR (qR a b) (qR c d) = some (qR (a * d - c * b) (b * d)) := by
  unfold subR
  rw [h1.ok, h2.ok, qR_val.1, qR_val.2, qR_val.1, qR_val.2]
  have r1 := h1.red
  have r2 := h2.red
  have m1 := abs_mul r1.1 (b := redD c d) (by have := r2.2; omega)
  have m2 := abs_mul r2.1 (b := redD a b) (by have := r1.2; omega)
  have m3 := abs_mul (a := redD a b) (b := redD c d) (by have := r1.2; omega) (by have := r2.2; omega)
  rw [(fz_180 m1).fits, (fz_180 m2).fits]
  have hp := Int.mul_pos r1.2.1 r2.2.1
  simp only [Bool.and_self, if_true]
  refine both_q (by unfold Fz; omega) (fz_180 m3) ?_
  rw [makeR_q (by omega)]
  congr 1
  refine qR_congr hp (Int.mul_pos h1.2.1 h2.2.1) ?_
  have e1 := rq_cross (n := a) h1.2.1
  have e2 := rq_cross (n := c) h2.2.1
  generalize redN a b = p at *
  generalize redD a b = q at *
  generalize redN c d = r at *
  generalize redD c d = s at *
  grind
theorem divR_q {a b c d : Int} (h1 : Q9 a b) (h2 : Q9 c d) (hc : 0 < c) : divR (qR a b) (qR c d) = some (qR (a * d) (b * c)) := by
  unfold divR
  rw [h1.ok, h2.ok, qR_val.1, qR_val.2, qR_val.1, qR_val.2]
  have r1 := h1.red
  have r2 := h2.red
  have m1 := abs_mul r1.1 (b := redD c d) (by have := r2.2; omega)
  have m3 := abs_mul (a := redD a b) (b := redN c d) (by have := r1.2; omega) r2.1
  have hrc : 0 < redN c d := by
    have h := rq_n (n := c) h2.2.1
    have hg := gcd_pos (n := c) h2.2.1
    rcases Int.lt_or_le 0 (redN c d) with h' | h'
    · exact h'
    · have := Int.mul_nonpos_of_nonpos_of_nonneg h' (Int.le_of_lt hg); omega
  have hp := Int.mul_pos r1.2.1 hrc
  simp only [Bool.and_self, if_true]
  refine both_q (fz_180 m1) (fz_180 m3) ?_
  rw [makeR_q (by omega)]
  congr 1
  refine qR_congr hp (Int.mul_pos h1.2.1 hc) ?_
  have e1 := rq_cross (n := a) h1.2.1
  have e2 := rq_cross (n := c) h2.2.1
  generalize redN a b = p at *
  generalize redD a b = q at *
  generalize redN c d = r at *
  generalize redD c d = s at *
  grind
section
variable {a b c d : Int} {w : World}
theorem qAdd_ok (h1 : Q9 a b) (h2 : Q9 c d) (ht : Tb w) : Calls Tryz.prog 23 #[.agg #[S (qR a b).1, S (qR a b).2], .agg #[S (qR c d).1, S (qR c d).2]] w (Ret w fun v _ => v = Qv (a * d + c * b) (b * d)) := cEq (rAdd_ok _ _ _ _ _ ht) (congrArg resR (addR_q h1 h2))
theorem qSub_ok (h1 : Q9 a b) (h2 : Q9 c d) (ht : Tb w) : Calls Tryz.prog 56 #[.agg #[S (qR a b).1, S (qR a b).2], .agg #[S (qR c d).1, S (qR c d).2]] w (Ret w fun v _ => v = Qv (a * d - c * b) (b * d)) := cEq (rSub_ok _ _ _ _ _ ht) (congrArg resR (subR_q h1 h2))
theorem qDiv_ok (h1 : Q9 a b) (h2 : Q9 c d) (hc : 0 < c) (ht : Tb w) : Calls Tryz.prog 14 #[.agg #[S (qR a b).1, S (qR a b).2], .agg #[S (qR c d).1, S (qR c d).2]] w (Ret w fun v _ => v = Qv (a * d) (b * c)) := cEq (rDiv_ok _ _ _ _ _ ht) (congrArg resR (divR_q h1 h2 hc))
end
theorem upn_mul {a b k : Nat} (hk : 0 < k) : upn (a * k) (b * k) = upn a b := by
  unfold upn
  rw [Nat.mul_mod_mul_right, Nat.mul_div_mul_right _ _ hk]
  have : (a % b * k = 0) ↔ (a % b = 0) := ⟨fun h => (Nat.mul_eq_zero.1 h).resolve_right (by omega), fun h => by rw [h, Nat.zero_mul]⟩
  simp only [this]
theorem ofP_mul {S n d k : Nat} (hk : 0 < k) : ofP S (n * k) (d * k) = ofP S n d := by
  unfold ofP
  rw [show n * k * S = n * S * k by rw [Nat.mul_assoc, Nat.mul_comm k, ← Nat.mul_assoc], upn_mul hk, Nat.mul_div_mul_right _ _ hk]
end Go.Proofs.YtjijfnggomhpiaaGreatDoor
