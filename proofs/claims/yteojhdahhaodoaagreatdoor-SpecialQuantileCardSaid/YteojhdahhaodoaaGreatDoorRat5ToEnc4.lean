/- Part of the proof of a statement about the special functions. -/
import Derived.Test.YteojhdahhaodoaaGreatDoorSp3ToRat4
import Derived.Test.YteojhdahhaodoaaGreatDoorEngGToInt1
import Derived.Test.YteojhdahhaodoaaGreatDoorInt11ToRat1
set_option linter.all false
namespace Go.Proofs.YteojhdahhaodoaaGreatDoor
set_option maxRecDepth 100000
open Go Go.Eng Go.RowKit
attribute [local irreducible] wpListIn Code.wpIn Oper.wpIn Exit.then Exit.inBlock Exit.noGoto
set_option maxHeartbeats 40000000
theorem itoa_int (n : Int) : Lib.itoa n = showI n := by
  unfold Lib.itoa showI
  split
  · rw [decDigits_showN]
  · rw [decDigits_showN]; congr 1; omega
def qR (a b : Int) : R := (showI (redN a b), showI (redD a b))
theorem makeR_q {a b : Int} (hb : b ≠ 0) : makeR a b = some (qR a b) := by unfold makeR; rw [if_neg hb]; rfl
section
variable {w : World} {b : Nat} {x y : Int} {l m : List UInt8}
theorem wMul_ok (hB : Blk w b 86 #[.bool false]) (ht : Tb w) (hl : l = showI x) (hm : m = showI y) (fx : Fz x) (fy : Fz y) (fz : Fz (x * y)) :
    Calls Tryz.prog 62 #[.pointer (some ⟨b, 0, none⟩), S l, S m] w (RetA fun v w' => w.grownBy w' (some b) ∧ Blk w' b 86 #[.bool false] ∧ v = S (showI (x * y))) := by
  have h := mul_ok hB ht l m
  subst hl hm
  rw [mulI_Z fx fy fz] at h
  exact h
theorem wAdd_ok (hB : Blk w b 86 #[.bool false]) (ht : Tb w) (hl : l = showI x) (hm : m = showI y) (fx : Fz x) (fy : Fz y) (fz : Fz (x + y)) :
    Calls Tryz.prog 61 #[.pointer (some ⟨b, 0, none⟩), .func (.func 24) #[] #[], S l, S m] w (RetA fun v w' => w.grownBy w' (some b) ∧ Blk w' b 86 #[.bool false] ∧ v = S (showI (x + y))) := by
  have h := do_ok (o := addI l m) hB ht en222 (fun W hW => iAdd_ok _ _ W hW)
  subst hl hm
  rw [addI_Z fx fy fz] at h
  exact h
theorem wRed_ok (hB : Blk w b 86 #[.bool false]) (ht : Tb w) (hl : l = showI x) (hm : m = showI y) (fx : Fz x) (fy : Fz y) (h0 : y ≠ 0) :
    Calls Tryz.prog 63 #[.pointer (some ⟨b, 0, none⟩), S l, S m] w (RetA fun v w' => w.grownBy w' (some b) ∧ (∃ q, Blk w' b 86 #[.bool q]) ∧ v = .tuple #[.agg #[S (qR x y).1, S (qR x y).2], .int .i64 0]) := by
  have h := red_ok hB ht l m
  subst hl hm
  rw [redW_spec fx.int fy.int, valZ_showI, valZ_showI, makeR_q h0] at h
  exact h
theorem wCk_ok (hB : Blk w b 86 #[.bool false]) (ht : Tb w) {x y : List UInt8} {A : Option Addr} {n c lo : Nat} (hr : Rw w lo A [S x, S y]) (hn : 1 = n) (hAb : ∀ ad, A = some ad → ad.block ≠ b) (ho : okR (x, y) = true) :
    Calls Tryz.prog 60 #[.pointer (some ⟨b, 0, none⟩), .slice A n c] w (RetA fun v w' => w.grownBy w' (some b) ∧ Blk w' b 86 #[.bool false] ∧ v = .tuple #[]) := by
  have h := check_ok (rs := [(x, y)]) (c := c) hB ht hr hn om hAb
  rw [show ckB false [(x, y)] = false by simp [ckB, ho]] at h
  exact h
end
def rdI (N D t : Int) (up : Bool) : Int := if up = true ∧ ¬ showI (N * t % D) = [48] then N * t / D + 1 else N * t / D
def Qv (a b : Int) : Value := .tuple #[.agg #[S (qR a b).1, S (qR a b).2], .int .i64 0]
theorem rd_1 {N D t : Int} {up : Bool} (h : up = true) (h0 : ¬ showI (N * t % D) = [48]) : Qv (N * t / D + 1) t = Qv (rdI N D t up) t := by unfold rdI; rw [if_pos ⟨h, h0⟩]
theorem rd_0 {N D t : Int} {up : Bool} (h0 : showI (N * t % D) = [48]) : Qv (N * t / D) t = Qv (rdI N D t up) t := by unfold rdI; rw [if_neg (fun e => e.2 h0)]
theorem rd_d {N D t : Int} {up : Bool} (h : up = false) : Qv (N * t / D) t = Qv (rdI N D t up) t := by unfold rdI; rw [if_neg (fun e => by rw [h] at e; exact absurd e.1 dc)]
theorem fz_inc {N D : Int} (h : N.natAbs < 10 ^ 199) (hd : 0 < D) : Fz (N / D + 1) := by
  have h1 : Fz (N / D) := fz_div (by unfold Fz; omega) hd
  have h2 : (N / D).natAbs < 10 ^ 199 := by
    rcases Int.le_total 0 N with h0 | h0
    · have h1 := Int.ediv_nonneg h0 (Int.le_of_lt hd)
      have h2 := Int.ediv_le_self (b := D) h0
      omega
    · have h1 : N / D ≤ 0 := Int.ediv_nonpos_of_nonpos_of_neg h0 hd
      have h2 : N ≤ N / D := by
        refine Int.le_ediv_of_mul_le hd ?_
        have h7 : 0 ≤ (-N) * (D - 1) := Int.mul_nonneg om om
        rw [Int.neg_mul, Int.mul_sub, Int.mul_one] at h7
        omega
      omega
  unfold Fz; omega
theorem rMakeZ_ok {l m : List UInt8} {a b : Int} {w : World} (hl : l = showI a) (hm : m = showI b) (fa : Fz a) (fb : Fz b) (h0 : b ≠ 0) (ht : Tb w) :
    Calls Tryz.prog 46 #[S (l), S (m)] w (Ret w fun v w' => v = .tuple #[.agg #[S ((qR a b).1), S ((qR a b).2)], .int .i64 (0)]) := by
 subst hl hm;have ib : (!isInt (showI b)) = false := by rw [fb.int]; rfl
 refine f_in Tryz.func46 rfl ?_;refine go ?_;refine al inf36 (fun f6 fk bb => ?_);have ht := Tb.ext fk.2 ht;have ac := fk.2;refine go ?_;refine cl en102 (iValid_ok (showI a) _) ?_;rintro f7 f8 fg rfl;have ht := Tb.ext fg.2 ht;have bb := be fg.2 bb;have ac := xt ac fg.2;refine go ?_;refine l_want (s := 10) rfl (congrArg Value.bool (congrArg Bool.not fa.int)) ?_;refine go ?_;refine l_want (s := 10) rfl (congrArg Value.bool (congrArg Bool.not fa.int)) ?_;refine cl en102 (iValid_ok (showI b) _) ?_;rintro gc en fh rfl;have ht := Tb.ext fh.2 ht;have bb := be fh.2 bb;have ac := xt ac fh.2;refine l_want (s := 10) rfl (congrArg Value.bool (congrArg Bool.not fa.int)) ?_;refine go ?_;refine l_op (k_pick (t := false) (v := .bool (!(isInt (showI b)))) (congrArg Value.bool (congrArg Bool.not fa.int)) rfl ?_);refine l_op (k_build (vs := [(0, .bool (!(isInt (showI b))))]) (cells := #[.bool (!(isInt (showI b)))]) (pl := [(0, 1)]) U235 inf235 (by kernel_rfl) rfl (by kernel_rfl) ?_);refine bx (fun fp fj fq => ?_);have ht := Tb.ext fj.2 ht;have bb := be fj.2 bb;have ac := xt ac fj.2;refine go ?_;have fm : Blk fp (en.heap.size) 86 #[.bool false] := by have h := fq; rw [ib] at h; exact h
 refine go ?_;refine l_op (k_callA (vs := [.pointer (some ⟨en.heap.size, 0, none⟩), S (showI a), S (showI b)]) en225 rfl (wRed_ok fm ht rfl rfl fa fb h0) ?_);rintro gd gg ⟨e8, ⟨gh, fo⟩, rfl⟩;have bb := Blk.gr e8 (by simp; omega) bb;have ac := low_gr ac e8 (bz ac) (fun g hgg => by cases hgg; omega);have gi := e8.size;refine go ?_;refine SA bb (fun gj fe fw => ?_);have fo := pb fe fo;have ac := plw fe ac;have gk := psz fe;refine go ?_;refine f_out (v := .tuple #[.agg #[S ((qR a b).1), S ((qR a b).2)], .int .i64 (0)]) (res2 (r1 := .cell 4 25) (r2 := .tmp 5) rfl ?_ ?_) ac rfl;refine res_cellA (t := 4) (cs := [S ((qR a b).1), S ((qR a b).2)]) (b := w.heap.size) (o := 0) U36 rfl sz36 ?_ ?_;exact rfl;exact Blk.cells fw (i := 0) rfl;exact res_tmp (t := 5) (by exact rfl) _
theorem fromZ_ok {n : Int} {w : World} (hn : In64 n) (ht : Tb w) :
    Calls Tryz.prog 67 #[.int .i64 (n)] w (Ret w fun v w' => v = S (showI n)) := by
 have h1 : -9223372036854775808 ≤ n := by unfold In64 at hn; omega
 have h2 : n ≤ 9223372036854775807 := by unfold In64 at hn; omega
 refine f_in Tryz.func67 rfl ?_;refine go ?_;refine cl en131 (cEq (Y := S (showI n)) (itoa_ok _ _ h1 h2 (ht.ext (Ext.refl _))) (congrArg S (itoa_int n))) ?_;rintro en e8 ac rfl;have bb := ac.2;refine go ?_;exact f_ret1 (t := 2) (v := S (showI n)) rfl bb rfl rfl
theorem fz64 {n : Int} (h : In64 n) : Fz n := by unfold In64 at h; unfold Fz; omega
theorem rOfZ_ok {a b : Int} {w : World} (ha : In64 a) (hb : In64 b) (h0 : b ≠ 0) (ht : Tb w) :
    Calls Tryz.prog 25 #[.int .i64 (a), .int .i64 (b)] w (Ret w fun v w' => v = .tuple #[.agg #[S ((qR a b).1), S ((qR a b).2)], .int .i64 (0)]) := by
 refine f_in Tryz.func25 rfl ?_;refine go ?_;refine al inf36 (fun fk fh bb => ?_);have ac := fh.2;refine go ?_;refine cl en1067 (fromZ_ok ha (ht.ext ac)) ?_;rintro fm fo en rfl;have bb := be en.2 bb;have ac := xt ac en.2;refine go ?_;refine cl en1067 (fromZ_ok hb (ht.ext ac)) ?_;rintro fp fq e8 rfl;have bb := be e8.2 bb;have ac := xt ac e8.2;refine cl en1046 (rMakeZ_ok rfl rfl (fz64 ha) (fz64 hb) h0 (ht.ext ac)) ?_;rintro fw f6 fe rfl;have bb := be fe.2 bb;have ac := xt ac fe.2;refine go ?_;refine SA bb (fun f7 fg fj => ?_);have ac := plw fg ac;have f8 := psz fg;refine go ?_;refine f_out (v := .tuple #[.agg #[S ((qR a b).1), S ((qR a b).2)], .int .i64 (0)]) (res2 (r1 := .cell 4 25) (r2 := .tmp 5) rfl ?_ ?_) ac rfl;refine res_cellA (t := 4) (cs := [S ((qR a b).1), S ((qR a b).2)]) (b := w.heap.size) (o := 0) U36 rfl sz36 ?_ ?_;exact rfl;exact Blk.cells fj (i := 0) rfl;exact res_tmp (t := 5) (by exact rfl) _
theorem rRound_ok {N D : Int} {pl : Nat} {up : Bool} {w : World} (ho : okR (showI N, showI D) = true) (fN : Fz N) (fD : Fz D) (hp : pl ≤ 30) (hNT : (N * ((10 ^ pl : Nat) : Int)).natAbs < 10 ^ 199) (ht : Tb w) :
    Calls Tryz.prog 129 #[.agg #[S (showI N), S (showI D)], .int .i64 pl, .bool (up)] w (Ret w fun v w' => v = Qv (rdI N D (((10 ^ pl : Nat) : Int)) up) (((10 ^ pl : Nat) : Int))) := by
 have h10 : ((10 ^ pl : Nat) : Int) ≠ 0 := by have := Nat.pow_pos (n := pl) (show 0 < 10 by decide); omega
 have pD : 0 < D := by have := okR_pos ho; rwa [valZ_showI] at this
 have fNT : Fz (N * ((10 ^ pl : Nat) : Int)) := (by unfold Fz; omega);have gj : pl < 200 := om;have fT : Fi (10 ^ pl) := Nat.pow_lt_pow_right dc om;refine f_in Tryz.func129 rfl ?_;refine go ?_;refine bx (fun fg gq bb => ?_);have ht := Tb.ext gq.2 ht;have ac := gq.2;refine al inf36 (fun e8 gp en => ?_);have ht := Tb.ext gp.2 ht;have bb := be gp.2 bb;have ac := xt ac gp.2;refine go ?_;refine l_op (k_build (vs := [(0, .bool (decide (30 < (pl : Int))))]) (cells := #[.bool (decide (30 < (pl : Int)))]) (pl := [(0, 1)]) U235 inf235 (by kernel_rfl) rfl (by kernel_rfl) ?_);refine bx (fun gu gk g6 => ?_);have ht := Tb.ext gk.2 ht;have bb := be gk.2 bb;have en := be gk.2 en;have ac := xt ac gk.2;refine go ?_;have gl : Blk gu (e8.heap.size) 86 #[.bool false] := by have h := g6; rw [decide_eq_false om] at h; exact h
 refine go ?_;refine BS (fun ic fh ie g7 => ?_);have ht := Tb.ext fh ht;have bb := be fh bb;have en := be fh en;have gl := be fh gl;have ac := xt ac fh;have ig := bz fh;refine l_op (k_callA (vs := [.pointer (some ⟨e8.heap.size, 0, none⟩), .slice (some ⟨gu.heap.size, 0, none⟩) (1) (1)]) en223 rfl (wCk_ok gl ht (Rw.of_own g7) rfl (fun ad e => by cases e; simp; omega) ho) ?_);rintro ii ij ⟨fk, fm, rfl⟩;have ht := Tb.gr fk gl dc ht;have bb := Blk.gr fk (by simp; omega) bb;have en := Blk.gr fk (by simp; omega) en;have ac := low_gr ac fk (bz ac) (fun g hgg => by cases hgg; omega);have ik := fk.size;refine go ?_;refine clb en132 (hc := repeat_ok [48] pl _ om dc) (hk := ?_);rintro il im fo rfl;have ht := Tb.ext fo.2 ht;have bb := be fo.2 bb;have en := be fo.2 en;have fm := be fo.2 fm;have ac := xt ac fo.2;refine l_op (k_addS (a := [49]) (b := Lib.repeatL [48] pl) rfl rfl (by rw [zeros_str]; simp; omega) ?_);refine go ?_;refine l_op (k_callA (vs := [.pointer (some ⟨e8.heap.size, 0, none⟩), S (showI N), S (([49]) ++ (Lib.repeatL [48] pl))]) en224 rfl (wMul_ok fm ht rfl (one_str gj) fN fT.z fNT) ?_);rintro io ip ⟨fp, fq, rfl⟩;have ht := Tb.gr fp fm dc ht;have bb := Blk.gr fp (by simp; omega) bb;have en := Blk.gr fp (by simp; omega) en;have ac := low_gr ac fp (bz ac) (fun g hgg => by cases hgg; omega);have iq := fp.size;refine go ?_;refine cl en83 (cEq (Y := .tuple #[S (showI (N * (((10 ^ pl : Nat) : Int)) / D)), S (showI (N * (((10 ^ pl : Nat) : Int)) % D)), .int .i64 (0)]) (iDiv_ok _ _ _ ht) (congrArg resD (divI_Z fNT fD (Int.ne_of_gt pD) (fz_div fNT pD)))) ?_
 rintro ir iu fw rfl;have ht := Tb.ext fw.2 ht;have bb := be fw.2 bb;have en := be fw.2 en;have fq := be fw.2 fq;have ac := xt ac fw.2;refine go ?_;refine SO fq (fun iv f6 fj => ?_);have ht := Tb.put f6 (fq) dc ht;have bb := pb f6 bb;have en := pb f6 en;have ac := plw f6 ac;have iw := psz f6;refine go ?_;rcases Bool.eq_false_or_eq_true (up) with fe | fe;refine go ?_;refine nes (b := [48]) ?_;refine go ?_;by_cases gm : (showI (N * (((10 ^ pl : Nat) : Int)) % D)) = ([48]);refine go ?_;refine l_op (k_callA (vs := [.pointer (some ⟨e8.heap.size, 0, none⟩), S (showI (N * (((10 ^ pl : Nat) : Int)) / D)), S (([49]) ++ (Lib.repeatL [48] pl))]) en225 rfl (wRed_ok fj ht rfl (one_str gj) (fz_div fNT pD) fT.z h10) ?_);rintro ix iy ⟨f7, ⟨iz, gv⟩, rfl⟩;have bb := Blk.gr f7 (by simp; omega) bb;have en := Blk.gr f7 (by simp; omega) en;have ac := low_gr ac f7 (bz ac) (fun g hgg => by cases hgg; omega);have i6 := f7.size;refine go ?_;refine SA en (fun i7 f8 g8 => ?_);have bb := pb f8 bb;have gv := pb f8 gv;have ac := plw f8 ac;have i8 := psz f8;refine go ?_;refine f_out (v := .tuple #[.agg #[S ((qR (N * (((10 ^ pl : Nat) : Int)) / D) (((10 ^ pl : Nat) : Int))).1), S ((qR (N * (((10 ^ pl : Nat) : Int)) / D) (((10 ^ pl : Nat) : Int))).2)], .int .i64 (0)]) (res2 (r1 := .cell 6 25) (r2 := .tmp 7) rfl ?_ ?_) ac (rd_0 gm);refine res_cellA (t := 6) (cs := [S ((qR (N * (((10 ^ pl : Nat) : Int)) / D) (((10 ^ pl : Nat) : Int))).1), S ((qR (N * (((10 ^ pl : Nat) : Int)) / D) (((10 ^ pl : Nat) : Int))).2)]) (b := fg.heap.size) (o := 0) U36 rfl sz36 ?_ ?_
 exact rfl;exact Blk.cells g8 (i := 0) rfl;exact res_tmp (t := 7) (by exact rfl) _;refine go ?_;refine l_op (k_callA (vs := [.pointer (some ⟨e8.heap.size, 0, none⟩), .func (.func 24) #[] #[], S (showI (N * (((10 ^ pl : Nat) : Int)) / D)), S ([49])]) en227 rfl (wAdd_ok fj ht rfl lit1 (fz_div fNT pD) (by unfold Fz; decide) (fz_inc hNT pD)) ?_);rintro ja jb ⟨gc, gw, rfl⟩;have ht := Tb.gr gc fj dc ht;have bb := Blk.gr gc (by simp; omega) bb;have en := Blk.gr gc (by simp; omega) en;have ac := low_gr ac gc (bz ac) (fun g hgg => by cases hgg; omega);have jc := gc.size;refine go ?_;refine l_op (k_callA (vs := [.pointer (some ⟨e8.heap.size, 0, none⟩), S (showI (N * (((10 ^ pl : Nat) : Int)) / D + 1)), S (([49]) ++ (Lib.repeatL [48] pl))]) en225 rfl (wRed_ok gw ht rfl (one_str gj) (fz_inc hNT pD) fT.z h10) ?_);rintro jd je ⟨gd, ⟨jf, gy⟩, rfl⟩;have bb := Blk.gr gd (by simp; omega) bb;have en := Blk.gr gd (by simp; omega) en;have ac := low_gr ac gd (bz ac) (fun g hgg => by cases hgg; omega);have jg := gd.size;refine go ?_;refine SA en (fun jh gg g9 => ?_);have bb := pb gg bb;have gy := pb gg gy;have ac := plw gg ac;have ji := psz gg;refine go ?_;refine f_out (v := .tuple #[.agg #[S ((qR (N * (((10 ^ pl : Nat) : Int)) / D + 1) (((10 ^ pl : Nat) : Int))).1), S ((qR (N * (((10 ^ pl : Nat) : Int)) / D + 1) (((10 ^ pl : Nat) : Int))).2)], .int .i64 (0)]) (res2 (r1 := .cell 6 25) (r2 := .tmp 7) rfl ?_ ?_) ac (rd_1 fe gm)
 refine res_cellA (t := 6) (cs := [S ((qR (N * (((10 ^ pl : Nat) : Int)) / D + 1) (((10 ^ pl : Nat) : Int))).1), S ((qR (N * (((10 ^ pl : Nat) : Int)) / D + 1) (((10 ^ pl : Nat) : Int))).2)]) (b := fg.heap.size) (o := 0) U36 rfl sz36 ?_ ?_;exact rfl;exact Blk.cells g9 (i := 0) rfl;exact res_tmp (t := 7) (by exact rfl) _;refine go ?_;refine l_op (k_callA (vs := [.pointer (some ⟨e8.heap.size, 0, none⟩), S (showI (N * (((10 ^ pl : Nat) : Int)) / D)), S (([49]) ++ (Lib.repeatL [48] pl))]) en225 rfl (wRed_ok fj ht rfl (one_str gj) (fz_div fNT pD) fT.z h10) ?_);rintro jj jk ⟨gh, ⟨jl, gz⟩, rfl⟩;have bb := Blk.gr gh (by simp; omega) bb;have en := Blk.gr gh (by simp; omega) en;have ac := low_gr ac gh (bz ac) (fun g hgg => by cases hgg; omega);have jm := gh.size;refine go ?_;refine SA en (fun jn gi ia => ?_);have bb := pb gi bb;have gz := pb gi gz;have ac := plw gi ac;have jo := psz gi;refine go ?_;refine f_out (v := .tuple #[.agg #[S ((qR (N * (((10 ^ pl : Nat) : Int)) / D) (((10 ^ pl : Nat) : Int))).1), S ((qR (N * (((10 ^ pl : Nat) : Int)) / D) (((10 ^ pl : Nat) : Int))).2)], .int .i64 (0)]) (res2 (r1 := .cell 6 25) (r2 := .tmp 7) rfl ?_ ?_) ac (rd_d fe);refine res_cellA (t := 6) (cs := [S ((qR (N * (((10 ^ pl : Nat) : Int)) / D) (((10 ^ pl : Nat) : Int))).1), S ((qR (N * (((10 ^ pl : Nat) : Int)) / D) (((10 ^ pl : Nat) : Int))).2)]) (b := fg.heap.size) (o := 0) U36 rfl sz36 ?_ ?_;exact rfl;exact Blk.cells ia (i := 0) rfl
 exact res_tmp (t := 7) (by exact rfl) _
theorem rDown_ok {N D : Int} {pl : Nat} {w : World} (ho : okR (showI N, showI D) = true) (fN : Fz N) (fD : Fz D) (hp : pl ≤ 30) (hNT : (N * ((10 ^ pl : Nat) : Int)).natAbs < 10 ^ 199) (ht : Tb w) :
    Calls Tryz.prog 90 #[.agg #[S (showI N), S (showI D)], .int .i64 pl] w (Ret w fun v w' => v = .tuple #[.agg #[S ((qR (rdI N D (((10 ^ pl : Nat) : Int)) false) (((10 ^ pl : Nat) : Int))).1), S ((qR (rdI N D (((10 ^ pl : Nat) : Int)) false) (((10 ^ pl : Nat) : Int))).2)], .int .i64 (0)]) := by
 refine f_in Tryz.func90 rfl ?_;refine go ?_;refine bx (fun fg fj bb => ?_);have ac := fj.2;refine al inf36 (fun fm fh en => ?_);have bb := be fh.2 bb;have ac := xt ac fh.2;refine go ?_;refine cl en1129 (rRound_ok ho fN fD hp hNT (ht.ext ac)) ?_;rintro fo fp e8 rfl;have bb := be e8.2 bb;have en := be e8.2 en;have ac := xt ac e8.2;refine go ?_;refine SA en (fun fq fe fk => ?_);have bb := pb fe bb;have ac := plw fe ac;have fw := psz fe;refine go ?_;refine f_out (v := .tuple #[.agg #[S ((qR (rdI N D (((10 ^ pl : Nat) : Int)) false) (((10 ^ pl : Nat) : Int))).1), S ((qR (rdI N D (((10 ^ pl : Nat) : Int)) false) (((10 ^ pl : Nat) : Int))).2)], .int .i64 (0)]) (res2 (r1 := .cell 4 25) (r2 := .tmp 5) rfl ?_ ?_) ac rfl;refine res_cellA (t := 4) (cs := [S ((qR (rdI N D (((10 ^ pl : Nat) : Int)) false) (((10 ^ pl : Nat) : Int))).1), S ((qR (rdI N D (((10 ^ pl : Nat) : Int)) false) (((10 ^ pl : Nat) : Int))).2)]) (b := fg.heap.size) (o := 0) U36 rfl sz36 ?_ ?_;exact rfl;exact Blk.cells fk (i := 0) rfl;exact res_tmp (t := 5) (by exact rfl) _
theorem rUp_ok {N D : Int} {pl : Nat} {w : World} (ho : okR (showI N, showI D) = true) (fN : Fz N) (fD : Fz D) (hp : pl ≤ 30) (hNT : (N * ((10 ^ pl : Nat) : Int)).natAbs < 10 ^ 199) (ht : Tb w) :
    Calls Tryz.prog 91 #[.agg #[S (showI N), S (showI D)], .int .i64 pl] w (Ret w fun v w' => v = .tuple #[.agg #[S ((qR (rdI N D (((10 ^ pl : Nat) : Int)) true) (((10 ^ pl : Nat) : Int))).1), S ((qR (rdI N D (((10 ^ pl : Nat) : Int)) true) (((10 ^ pl : Nat) : Int))).2)], .int .i64 (0)]) := by
 refine f_in Tryz.func91 rfl ?_;refine go ?_;refine bx (fun fg fj bb => ?_);have ac := fj.2;refine al inf36 (fun fm fh en => ?_);have bb := be fh.2 bb;have ac := xt ac fh.2;refine go ?_;refine cl en1129 (rRound_ok ho fN fD hp hNT (ht.ext ac)) ?_;rintro fo fp e8 rfl;have bb := be e8.2 bb;have en := be e8.2 en;have ac := xt ac e8.2;refine go ?_;refine SA en (fun fq fe fk => ?_);have bb := pb fe bb;have ac := plw fe ac;have fw := psz fe;refine go ?_;refine f_out (v := .tuple #[.agg #[S ((qR (rdI N D (((10 ^ pl : Nat) : Int)) true) (((10 ^ pl : Nat) : Int))).1), S ((qR (rdI N D (((10 ^ pl : Nat) : Int)) true) (((10 ^ pl : Nat) : Int))).2)], .int .i64 (0)]) (res2 (r1 := .cell 4 25) (r2 := .tmp 5) rfl ?_ ?_) ac rfl;refine res_cellA (t := 4) (cs := [S ((qR (rdI N D (((10 ^ pl : Nat) : Int)) true) (((10 ^ pl : Nat) : Int))).1), S ((qR (rdI N D (((10 ^ pl : Nat) : Int)) true) (((10 ^ pl : Nat) : Int))).2)]) (b := fg.heap.size) (o := 0) U36 rfl sz36 ?_ ?_;exact rfl;exact Blk.cells fk (i := 0) rfl;exact res_tmp (t := 5) (by exact rfl) _
end Go.Proofs.YteojhdahhaodoaaGreatDoor
namespace Go.Proofs.YteojhdahhaodoaaGreatDoor
open Go Go.Eng Go.RowKit
section
variable {n d : Int}
theorem gcd_pos (hd : 0 < d) : 0 < ((Int.gcd n d : Nat) : Int) := by have := Int.gcd_pos_of_ne_zero_right n (show d ≠ 0 by omega); omega
theorem rq_n (hd : 0 < d) : redN n d * ((Int.gcd n d : Nat) : Int) = n := by
  unfold redN; rw [if_neg (by omega)]; exact Int.ediv_mul_cancel (Int.gcd_dvd_left ..)
theorem rq_d (hd : 0 < d) : redD n d * ((Int.gcd n d : Nat) : Int) = d := by
  unfold redD; rw [if_neg (by omega)]; exact Int.ediv_mul_cancel (Int.gcd_dvd_right ..)
theorem rq_cross (hd : 0 < d) : redN n d * d = n * redD n d := by
  have h1 := rq_n (n := n) hd
  have h2 := rq_d (n := n) hd
  generalize redN n d = a at *
  generalize redD n d = b at *
  generalize ((Int.gcd n d : Nat) : Int) = g at *
  rw [← h1, ← h2, Int.mul_comm b g, Int.mul_assoc]
theorem rq_pos (hd : 0 < d) : 0 < redD n d := by
  have h2 := rq_d (n := n) hd
  have hg := gcd_pos (n := n) hd
  rcases Int.lt_or_le 0 (redD n d) with h | h
  · exact h
  · have := Int.mul_nonpos_of_nonpos_of_nonneg h (Int.le_of_lt hg); omega
theorem rq_le (hd : 0 < d) : redD n d ≤ d := by
  have h2 := rq_d (n := n) hd
  have hg := gcd_pos (n := n) hd
  have hp := rq_pos (n := n) hd
  have := Int.mul_le_mul_of_nonneg_left (show (1 : Int) ≤ ((Int.gcd n d : Nat) : Int) by omega) (Int.le_of_lt hp)
  omega
theorem rq_abs (hd : 0 < d) : (redN n d).natAbs ≤ n.natAbs := by
  have h2 := congrArg Int.natAbs (rq_n (n := n) hd)
  have hg := gcd_pos (n := n) hd
  rw [Int.natAbs_mul, Int.natAbs_natCast] at h2
  exact Nat.le_trans (Nat.le_mul_of_pos_right _ (by omega)) (Nat.le_of_eq h2)
theorem rq_gcd (hd : 0 < d) : Int.gcd (redN n d) (redD n d) = 1 := by
  have hg := gcd_pos (n := n) hd
  have e := Int.gcd_mul_right (redN n d) ((Int.gcd n d : Nat) : Int) (redD n d)
  rw [rq_n hd, rq_d hd, Int.natAbs_natCast] at e
  exact Nat.eq_of_mul_eq_mul_right (show 0 < Int.gcd n d by omega) (by omega)
theorem okR_z {a b : Int} (ha : Fz a) (hb : Fz b) (h0 : 0 < b) (hg : Int.gcd a b = 1) : okR (showI a, showI b) = true := by
  have e : gcdI (showI a) (showI b) = some [49] := by
    unfold gcdI; rw [if_pos (by rw [ha.int, hb.int]; rfl), valZ_showI, valZ_showI, hg]
    decide +kernel
  unfold okR
  simp only [ha.int, hb.int, e]
  rw [cmpS_zero hb.int, valZ_showI, decide_eq_false (by rw [cmpI_nonpos]; omega)]
  rfl
theorem fz_rn (hd : 0 < d) (h : Fz n) : Fz (redN n d) := Nat.lt_of_le_of_lt (rq_abs hd) h
theorem fz_rd (hd : 0 < d) (h : Fz d) : Fz (redD n d) := by have := rq_pos (n := n) hd; have := rq_le (n := n) hd; unfold Fz at *; omega
theorem okR_q (hd : 0 < d) (fn : Fz n) (fd : Fz d) : okR (qR n d) = true := okR_z (fz_rn hd fn) (fz_rd hd fd) (rq_pos hd) (rq_gcd hd)
end
theorem qR_cop {n d : Int} (hd : 0 < d) (hg : Int.gcd n d = 1) : qR n d = (showI n, showI d) := by
  unfold qR redN redD; rw [hg, if_neg (by omega), if_neg (by omega)]; simp
theorem dvd_gcd1 {a b c : Int} (h : a ∣ b * c) (hg : Int.gcd a c = 1) : a ∣ b := by
  have h1 : a.natAbs ∣ b.natAbs * c.natAbs := by rw [← Int.natAbs_mul]; exact Int.natAbs_dvd_natAbs.2 h
  exact Int.natAbs_dvd_natAbs.1 (Nat.Coprime.dvd_of_dvd_mul_right (show Nat.Coprime a.natAbs c.natAbs from hg) h1)
theorem red_uniq {a b c d : Int} (hb : 0 < b) (hd : 0 < d) (h1 : Int.gcd a b = 1) (h2 : Int.gcd c d = 1) (h : a * d = c * b) : a = c ∧ b = d := by
  have e1 : b ∣ d := by
    have : b ∣ d * a := ⟨c, by rw [Int.mul_comm d a, h, Int.mul_comm]⟩
    exact dvd_gcd1 this (by rw [Int.gcd_comm]; exact h1)
  have e2 : d ∣ b := by
    have : d ∣ b * c := ⟨a, by rw [Int.mul_comm b c, ← h, Int.mul_comm]⟩
    exact dvd_gcd1 this (by rw [Int.gcd_comm]; exact h2)
  have e := Int.dvd_antisymm (by omega) (by omega) e1 e2
  subst e
  exact ⟨Int.eq_of_mul_eq_mul_right (by omega) h, rfl⟩
theorem red_congr {a b c d : Int} (hb : 0 < b) (hd : 0 < d) (h : a * d = c * b) : redN a b = redN c d ∧ redD a b = redD c d := by
  have h1 := rq_cross (n := a) hb
  have h2 := rq_cross (n := c) hd
  refine red_uniq (rq_pos hb) (rq_pos hd) (rq_gcd hb) (rq_gcd hd) ?_
  have e : redN a b * redD c d * (b * d) = redN c d * redD a b * (b * d) := by
    calc redN a b * redD c d * (b * d) = (redN a b * b) * (redD c d * d) := by grind
      _ = (a * redD a b) * (redD c d * d) := by rw [h1]
      _ = (a * d) * (redD a b * redD c d) := by grind
      _ = (c * b) * (redD a b * redD c d) := by rw [h]
      _ = (c * redD c d) * (redD a b * b) := by grind
      _ = (redN c d * d) * (redD a b * b) := by rw [h2]
      _ = redN c d * redD a b * (b * d) := by grind
  exact Int.eq_of_mul_eq_mul_right (Int.ne_of_gt (Int.mul_pos hb hd)) e
theorem qR_congr {a b c d : Int} (hb : 0 < b) (hd : 0 < d) (h : a * d = c * b) : qR a b = qR c d := by
  obtain ⟨h1, h2⟩ := red_congr hb hd h
  unfold qR; rw [h1, h2]
theorem qR_inj {a b c d : Int} (hb : 0 < b) (hd : 0 < d) (h : qR a b = qR c d) : a * d = c * b := by
  unfold qR at h
  have e1 := showI_inj (congrArg Prod.fst h)
  have e2 := showI_inj (congrArg Prod.snd h)
  have h1 := rq_n (n := a) hb
  have h2 := rq_d (n := a) hb
  have h3 := rq_n (n := c) hd
  have h4 := rq_d (n := c) hd
  rw [← e1] at h3
  rw [← e2] at h4
  generalize redN a b = p at *
  generalize redD a b = q at *
  rw [← h1, ← h2, ← h3, ← h4]; grind
theorem sgn_mul_cmp {x y k : Int} (hk : 0 < k) : cmpI (x * k) (y * k) = cmpI x y := cmpI_iff ⟨fun h => Int.lt_of_mul_lt_mul_right h (Int.le_of_lt hk), fun h => Int.mul_lt_mul_of_pos_right h hk⟩ ⟨fun h => Int.eq_of_mul_eq_mul_right (by omega) h, fun h => by rw [h]⟩
theorem cmp_red {a b c d : Int} (hb : 0 < b) (hd : 0 < d) : cmpI (redN a b * redD c d) (redN c d * redD a b) = cmpI (a * d) (c * b) := by
  rw [← sgn_mul_cmp (Int.mul_pos (gcd_pos (n := a) hb) (gcd_pos (n := c) hd))]
  have h1 := rq_n (n := a) hb
  have h2 := rq_d (n := a) hb
  have h3 := rq_n (n := c) hd
  have h4 := rq_d (n := c) hd
  generalize redN a b = p at *
  generalize redD a b = q at *
  generalize redN c d = r at *
  generalize redD c d = s at *
  generalize ((Int.gcd a b : Nat) : Int) = g at *
  generalize ((Int.gcd c d : Nat) : Int) = k at *
  rw [← h1, ← h2, ← h3, ← h4, show p * s * (g * k) = p * g * (s * k) by grind, show r * q * (g * k) = r * k * (q * g) by grind]
theorem rCmpQ_ok {a b c d : Int} {w : World} (hb : 0 < b) (hd : 0 < d) (fa : Fz a) (fb : Fz b) (fc : Fz c) (fd : Fz d) (ht : Tb w) :
    Calls Tryz.prog 14 #[.agg #[S (qR a b).1, S (qR a b).2], .agg #[S (qR c d).1, S (qR c d).2]] w (Ret w fun v _ => v = .int .i64 (cmpI (a * d) (c * b))) :=
  cEq (rCmpZ_ok (okR_q hb fa fb) (okR_q hd fc fd) (fz_rn hb fa) (fz_rd hb fb) (fz_rn hd fc) (fz_rd hd fd) ht) (congrArg (Value.int .i64) (cmp_red hb hd))
theorem qR_val {a b : Int} : valZ (qR a b).1 = redN a b ∧ valZ (qR a b).2 = redD a b := ⟨valZ_showI _, valZ_showI _⟩
def Q9 (a b : Int) : Prop := a.natAbs < 10 ^ 90 ∧ 0 < b ∧ b < 10 ^ 90
theorem Q9.fz {a b : Int} (h : Q9 a b) : Fz a ∧ Fz b := by obtain ⟨h1, h2, h3⟩ := h; unfold Fz; omega
theorem Q9.red {a b : Int} (h : Q9 a b) : Q9 (redN a b) (redD a b) := ⟨Nat.lt_of_le_of_lt (rq_abs h.2.1) h.1, rq_pos h.2.1, by have := rq_le (n := a) h.2.1; have := h.2.2; omega⟩
theorem Q9.ok {a b : Int} (h : Q9 a b) : okR (qR a b) = true := okR_q h.2.1 h.fz.1 h.fz.2
theorem abs_mul {a b : Int} (ha : a.natAbs < 10 ^ 90) (hb : b.natAbs < 10 ^ 90) : (a * b).natAbs < 10 ^ 180 := by rw [Int.natAbs_mul]; exact mul_lt_pow ha hb
theorem fz_180 {a : Int} (h : a.natAbs < 10 ^ 180) : Fz a := by unfold Fz; omega
theorem both_q {n d c e : Int} (fn : Fz n) (fd : Fz d) (h : makeR n d = some (qR c e)) : bothF n d = some (qR c e) := by
  unfold bothF; rw [fn.fits, fd.fits]; exact h
theorem addR_q {a b c d : Int} (h1 : Q9 a b) (h2 : Q9 c d) : addR (qR a b) (qR c d) = some (qR (a * d + c * b) (b * d)) := by
  unfold addR
  rw [h1.ok, h2.ok, qR_val.1, qR_val.2, qR_val.1, qR_val.2]
  have r1 := h1.red
  have r2 := h2.red
  have m1 := abs_mul r1.1 (b := redD c d) (by have := r2.2; omega)
  have m2 := abs_mul r2.1 (b := redD a b) (by have := r1.2; omega)
  have m3 := abs_mul (a := redD a b) (b := redD c d) (by have := r1.2; omega) (by have := r2.2; omega)
  rw [(fz_180 m1).fits, (fz_180 m2).fits]
  have hp := Int.mul_pos r1.2.1 r2.2.1
  simp only [Bool.and_self, if_true]
  refine both_q (by unfold Fz; omega) (fz_180 m3) ?_
  rw [makeR_q (by omega)]
  congr 1
  refine qR_congr hp (Int.mul_pos h1.2.1 h2.2.1) ?_
  have e1 := rq_cross (n := a) h1.2.1
  have e2 := rq_cross (n := c) h2.2.1
  generalize redN a b = p at *
  generalize redD a b = q at *
  generalize redN c d = r at *
  generalize redD c d = s at *
  grind
theorem subR_q {a b c d : Int} (h1 : Q9 a b) (h2 : Q9 c d) : subR (qR a b) (qR c d) = some (qR (a * d - c * b) (b * d)) := by
  unfold subR
  rw [h1.ok, h2.ok, qR_val.1, qR_val.2, qR_val.1, qR_val.2]
  have r1 := h1.red
  have r2 := h2.red
  have m1 := abs_mul r1.1 (b := redD c d) (by have := r2.2; omega)
  have m2 := abs_mul r2.1 (b := redD a b) (by have := r1.2; omega)
  have m3 := abs_mul (a := redD a b) (b := redD c d) (by have := r1.2; omega) (by have := r2.2; omega)
  rw [(fz_180 m1).fits, (fz_180 m2).fits]
  have hp := Int.mul_pos r1.2.1 r2.2.1
  simp only [Bool.and_self, if_true]
  refine both_q (by unfold Fz; omega) (fz_180 m3) ?_
  rw [makeR_q (by omega)]
  congr 1
  refine qR_congr hp (Int.mul_pos h1.2.1 h2.2.1) ?_
  have e1 := rq_cross (n := a) h1.2.1
  have e2 := rq_cross (n := c) h2.2.1
  generalize redN a b = p at *
  generalize redD a b = q at *
  generalize redN c d = r at *
  generalize redD c d = s at *
  grind
theorem divR_q {a b c d : Int} (h1 : Q9 a b) (h2 : Q9 c d) (hc : 0 < c) : divR (qR a b) (qR c d) = some (qR (a * d) (b * c)) := by
  unfold divR
  rw [h1.ok, h2.ok, qR_val.1, qR_val.2, qR_val.1, qR_val.2]
  have r1 := h1.red
  have r2 := h2.red
  have m1 := abs_mul r1.1 (b := redD c d) (by have := r2.2; omega)
  have m3 := abs_mul (a := redD a b) (b := redN c d) (by have := r1.2; omega) r2.1
  have hrc : 0 < redN c d := by
    have h := rq_n (n := c) h2.2.1
    have hg := gcd_pos (n := c) h2.2.1
    rcases Int.lt_or_le 0 (redN c d) with h' | h'
    · exact h'
    · have := Int.mul_nonpos_of_nonpos_of_nonneg h' (Int.le_of_lt hg); omega
  have hp := Int.mul_pos r1.2.1 hrc
  simp only [Bool.and_self, if_true]
  refine both_q (fz_180 m1) (fz_180 m3) ?_
  rw [makeR_q (by omega)]
  congr 1
  refine qR_congr hp (Int.mul_pos h1.2.1 hc) ?_
  have e1 := rq_cross (n := a) h1.2.1
  have e2 := rq_cross (n := c) h2.2.1
  generalize redN a b = p at *
  generalize redD a b = q at *
  generalize redN c d = r at *
  generalize redD c d = s at *
  grind
section
variable {a b c d : Int} {w : World}
theorem qAdd_ok (h1 : Q9 a b) (h2 : Q9 c d) (ht : Tb w) : Calls Tryz.prog 8 #[.agg #[S (qR a b).1, S (qR a b).2], .agg #[S (qR c d).1, S (qR c d).2]] w (Ret w fun v _ => v = Qv (a * d + c * b) (b * d)) := cEq (rAdd_ok _ _ _ _ _ ht) (congrArg resR (addR_q h1 h2))
theorem qSub_ok (h1 : Q9 a b) (h2 : Q9 c d) (ht : Tb w) : Calls Tryz.prog 12 #[.agg #[S (qR a b).1, S (qR a b).2], .agg #[S (qR c d).1, S (qR c d).2]] w (Ret w fun v _ => v = Qv (a * d - c * b) (b * d)) := cEq (rSub_ok _ _ _ _ _ ht) (congrArg resR (subR_q h1 h2))
theorem qDiv_ok (h1 : Q9 a b) (h2 : Q9 c d) (hc : 0 < c) (ht : Tb w) : Calls Tryz.prog 76 #[.agg #[S (qR a b).1, S (qR a b).2], .agg #[S (qR c d).1, S (qR c d).2]] w (Ret w fun v _ => v = Qv (a * d) (b * c)) := cEq (rDiv_ok _ _ _ _ _ ht) (congrArg resR (divR_q h1 h2 hc))
end
theorem upn_mul {a b k : Nat} (hk : 0 < k) : upn (a * k) (b * k) = upn a b := by
  unfold upn
  rw [Nat.mul_mod_mul_right, Nat.mul_div_mul_right _ _ hk]
  have : (a % b * k = 0) ↔ (a % b = 0) := ⟨fun h => (Nat.mul_eq_zero.1 h).resolve_right (by omega), fun h => by rw [h, Nat.zero_mul]⟩
  simp only [this]
theorem ofP_mul {S n d k : Nat} (hk : 0 < k) : ofP S (n * k) (d * k) = ofP S n d := by
  unfold ofP
  rw [show n * k * S = n * S * k by rw [Nat.mul_assoc, Nat.mul_comm k, ← Nat.mul_assoc], upn_mul hk, Nat.mul_div_mul_right _ _ hk]
end Go.Proofs.YteojhdahhaodoaaGreatDoor
namespace Go.Proofs.YteojhdahhaodoaaGreatDoor
open Go Go.Eng Go.RowKit
attribute [local irreducible] wpListIn Code.wpIn Oper.wpIn Exit.then Exit.inBlock Exit.noGoto
set_option maxHeartbeats 40000000
theorem q21 : (([50], [49]) : R) = qR 2 1 := by decide +kernel
theorem q11 : (([49], [49]) : R) = qR 1 1 := by decide +kernel
theorem q01 : (([48], [49]) : R) = qR 0 1 := by decide +kernel
theorem q12 : (([49], [50]) : R) = qR 1 2 := by decide +kernel
section
variable {a b c d : Int} {l m l' m' : List UInt8} {w : World}
theorem qCmpL (e1 : (l, m) = qR a b) (e2 : (l', m') = qR c d) (h1 : Q9 a b) (h2 : Q9 c d) (ht : Tb w) : Calls Tryz.prog 14 #[.agg #[S l, S m], .agg #[S l', S m']] w (Ret w fun v _ => v = .int .i64 (cmpI (a * d) (c * b))) := by
  rw [show l = (qR a b).1 from congrArg Prod.fst e1, show m = (qR a b).2 from congrArg Prod.snd e1, show l' = (qR c d).1 from congrArg Prod.fst e2, show m' = (qR c d).2 from congrArg Prod.snd e2]
  exact rCmpQ_ok h1.2.1 h2.2.1 h1.fz.1 h1.fz.2 h2.fz.1 h2.fz.2 ht
theorem qAddL (e1 : (l, m) = qR a b) (e2 : (l', m') = qR c d) (h1 : Q9 a b) (h2 : Q9 c d) (ht : Tb w) : Calls Tryz.prog 8 #[.agg #[S l, S m], .agg #[S l', S m']] w (Ret w fun v _ => v = Qv (a * d + c * b) (b * d)) := by
  rw [show l = (qR a b).1 from congrArg Prod.fst e1, show m = (qR a b).2 from congrArg Prod.snd e1, show l' = (qR c d).1 from congrArg Prod.fst e2, show m' = (qR c d).2 from congrArg Prod.snd e2]
  exact qAdd_ok h1 h2 ht
theorem qSubL (e1 : (l, m) = qR a b) (e2 : (l', m') = qR c d) (h1 : Q9 a b) (h2 : Q9 c d) (ht : Tb w) : Calls Tryz.prog 12 #[.agg #[S l, S m], .agg #[S l', S m']] w (Ret w fun v _ => v = Qv (a * d - c * b) (b * d)) := by
  rw [show l = (qR a b).1 from congrArg Prod.fst e1, show m = (qR a b).2 from congrArg Prod.snd e1, show l' = (qR c d).1 from congrArg Prod.fst e2, show m' = (qR c d).2 from congrArg Prod.snd e2]
  exact qSub_ok h1 h2 ht
theorem qDivL (e1 : (l, m) = qR a b) (e2 : (l', m') = qR c d) (h1 : Q9 a b) (h2 : Q9 c d) (hc : 0 < c) (ht : Tb w) : Calls Tryz.prog 76 #[.agg #[S l, S m], .agg #[S l', S m']] w (Ret w fun v _ => v = Qv (a * d) (b * c)) := by
  rw [show l = (qR a b).1 from congrArg Prod.fst e1, show m = (qR a b).2 from congrArg Prod.snd e1, show l' = (qR c d).1 from congrArg Prod.fst e2, show m' = (qR c d).2 from congrArg Prod.snd e2]
  exact qDiv_ok h1 h2 hc ht
theorem Qv_congr (hb : 0 < b) (hd : 0 < d) (h : a * d = c * b) : Qv a b = Qv c d := by unfold Qv; rw [qR_congr hb hd h]
end
theorem q9n {n d : Nat} (hn : n < 10 ^ 90) (h0 : 0 < d) (hd : d < 10 ^ 90) : Q9 (n : Int) (d : Int) := ⟨by simpa using hn, by omega, by omega⟩
theorem q9l1 : Q9 1 1 := ⟨by decide, by decide, by decide⟩
theorem q9l2 : Q9 2 1 := ⟨by decide, by decide, by decide⟩
theorem q9l0 : Q9 0 1 := ⟨by decide, by decide, by decide⟩
theorem red_nat {a b : Nat} (hb : 0 < b) : redN (a : Int) (b : Int) = ((a / Nat.gcd a b : Nat) : Int) ∧ redD (a : Int) (b : Int) = ((b / Nat.gcd a b : Nat) : Int) := by
  unfold redN redD
  rw [if_neg om, if_neg om]
  exact ⟨rfl, rfl⟩
theorem spOfQ_ok {sO pl a b : Nat} {w : World} (hS : Sc sO) (ha : a < 10 ^ 90) (hb : b < 10 ^ 90) (h0 : 0 < b) (ht : Tb w) :
    Calls Tryz.prog 32 #[.agg #[.int .i64 pl, S (nS sO)], .agg #[S (qR (a : Int) (b : Int)).1, S (qR (a : Int) (b : Int)).2]] w (Ret w fun v _ => v = .agg #[S (nS (ofP sO a b).1), S (nS (ofP sO a b).2)]) := by
  have hg : 0 < Nat.gcd a b := Nat.gcd_pos_of_pos_right _ h0
  have e1 : a / Nat.gcd a b * Nat.gcd a b = a := Nat.div_mul_cancel (Nat.gcd_dvd_left _ _)
  have e2 : b / Nat.gcd a b * Nat.gcd a b = b := Nat.div_mul_cancel (Nat.gcd_dvd_right _ _)
  have h1 := ofP_mul (S := sO) (n := a / Nat.gcd a b) (d := b / Nat.gcd a b) hg
  rw [e1, e2] at h1
  have hle : a / Nat.gcd a b < 10 ^ 90 := Nat.lt_of_le_of_lt (Nat.div_le_self _ _) ha
  have hle2 : b / Nat.gcd a b < 10 ^ 90 := Nat.lt_of_le_of_lt (Nat.div_le_self _ _) hb
  have hp : 0 < b / Nat.gcd a b := Nat.div_pos (Nat.le_of_dvd h0 (Nat.gcd_dvd_right _ _)) hg
  rw [h1]
  unfold qR
  rw [(red_nat h0).1, (red_nat h0).2]
  exact spOf_ok hS (fi_pow hle dc) (fi_pow hle2 dc) hp (fi_mul hle hS.lt dc) ht
def lgF : Nat → Nat → Nat → Nat → Option (Nat × Nat)
  | 0, _, _, _ => none
  | f + 1, n, d, k => if 2 * d < n then lgF f n (2 * d) (k + 1) else some (d, k)
def logP (S n d : Nat) : Option N2 := if n < 10 ^ 80 ∧ d < 10 ^ 80 ∧ 0 < d ∧ d ≤ n then (lgF 100 n d 0).bind fun p => (artP S (ofP S 1 3)).bind fun h => (artP S (ofP S (n - p.1) (n + p.1))).map fun a => plP a (byP h p.2 1) else none
theorem log_inv {S n d : Nat} {r : N2} (h : logP S n d = some r) : n < 10 ^ 80 ∧ d < 10 ^ 80 ∧ 0 < d ∧ d ≤ n ∧ ∃ p x a, lgF 100 n d 0 = some p ∧ artP S (ofP S 1 3) = some x ∧ artP S (ofP S (n - p.1) (n + p.1)) = some a ∧ r = plP a (byP x p.2 1) := by
  unfold logP at h
  split at h
  · rename_i h1
    refine ⟨h1.1, h1.2.1, h1.2.2.1, h1.2.2.2, ?_⟩
    cases hp : lgF 100 n d 0 with
    | none => rw [hp] at h; cases h
    | some p =>
      rw [hp, Option.bind_some] at h
      cases hx : artP S (ofP S 1 3) with
      | none => rw [hx] at h; cases h
      | some x =>
        rw [hx, Option.bind_some] at h
        cases ha : artP S (ofP S (n - p.1) (n + p.1)) with
        | none => rw [ha] at h; cases h
        | some a => rw [ha] at h; cases h; exact ⟨p, x, a, rfl, rfl, ha, rfl⟩
  · cases h
theorem lg_t {f n d k : Nat} {p : Nat × Nat} (h : lgF f n d k = some p) (hl : 2 * d < n) : ∃ g, f = g + 1 ∧ lgF g n (2 * d) (k + 1) = some p := by
  cases f with
  | zero => cases h
  | succ g => unfold lgF at h; rw [if_pos hl] at h; exact ⟨g, rfl, h⟩
theorem lg_f {f n d k : Nat} {p : Nat × Nat} (h : lgF f n d k = some p) (hl : ¬ 2 * d < n) : p = (d, k) := by
  cases f with
  | zero => cases h
  | succ g => unfold lgF at h; rw [if_neg hl] at h; cases h; rfl
theorem art_bd {S : Nat} {t r : N2} (h : artP S t = some r) : Bk 101 r := by
  obtain ⟨_, _, s, hs, rfl⟩ := art_inv h
  obtain ⟨m, hR, hr⟩ := sumP_inv hs
  have h1 : Bk 100 s := hr ▸ hR.res
  exact byP_bd (m := 1) dc h1 dc
theorem log_gt {n e : Nat} (h : 2 * e < n) : 0 < cmpI ((n : Int) * 1) (2 * (e : Int)) := by rw [cmpI_gt om]; decide
theorem log_le {n e : Nat} (h : ¬ 2 * e < n) : ¬ 0 < cmpI ((n : Int) * 1) (2 * (e : Int)) := by have := (cmpI_nonpos (x := (n : Int) * 1) (y := 2 * (e : Int))).2 om; omega
theorem half_q {n e : Nat} : Qv ((n : Int) * 1) ((e : Int) * 2) = Qv (n : Int) ((2 * e : Nat) : Int) := by rw [Int.mul_one, show (e : Int) * 2 = ((2 * e : Nat) : Int) by omega]
theorem sub_q {n e : Nat} (h : e ≤ n) : Qv ((n : Int) * 1 - 1 * (e : Int)) ((e : Int) * 1) = Qv ((n - e : Nat) : Int) (e : Int) := by rw [show (n : Int) * 1 - 1 * (e : Int) = ((n - e : Nat) : Int) by omega, Int.mul_one]
theorem add_q {n e : Nat} : Qv ((n : Int) * 1 + 1 * (e : Int)) ((e : Int) * 1) = Qv ((n + e : Nat) : Int) (e : Int) := by rw [show (n : Int) * 1 + 1 * (e : Int) = ((n + e : Nat) : Int) by omega, Int.mul_one]
theorem div_q {n e : Nat} (h0 : 0 < e) : Qv (((n - e : Nat) : Int) * (e : Int)) ((e : Int) * ((n + e : Nat) : Int)) = Qv ((n - e : Nat) : Int) ((n + e : Nat) : Int) :=
  Qv_congr (Int.mul_pos om om) om (by rw [Int.mul_assoc])
theorem lit3 : ([51] : List UInt8) = nS 3 := by decide +kernel
set_option maxRecDepth 100000 in
theorem log_ok {sO pl n d : Nat} {r : N2} {w : World} (hS : Sc sO) (hh : logP sO n d = some r) (ht : Tb w) :
    Calls Tryz.prog 37 #[.agg #[.int .i64 pl, S (nS sO)], .agg #[S ((qR (((n : Nat)) : Int) (((d : Nat)) : Int)).1), S ((qR (((n : Nat)) : Int) (((d : Nat)) : Int)).2)]] w (Ret w fun v w' => v = .agg #[S (nS r.1), S (nS r.2)]) := by
 obtain ⟨hn, hd, hd0, hdn, p, x, a, hp, hx, ha, rfl⟩ := log_inv hh;have hxb := art_bd hx;have hab := art_bd ha;refine f_in Tryz.func37 rfl ?_;refine go ?_;refine bx (fun ij jl ac => ?_);have fm := jl.2;refine bx (fun i8 jd fo => ?_);have ac := be jd.2 ac;have fm := xt fm jd.2;refine al inf1056 (fun iy ja bb => ?_);have ac := be ja.2 ac;have fo := be ja.2 fo;have fm := xt fm ja.2;refine go ?_;refine al inf36 (fun i6 i7 jb => ?_);have ac := be i7.2 ac;have fo := be i7.2 fo;have bb := be i7.2 bb;have fm := xt fm i7.2;refine al inf36 (fun j3 iz jc => ?_);have ac := be iz.2 ac;have fo := be iz.2 fo;have bb := be iz.2 bb;have jb := be iz.2 jb;have fm := xt fm iz.2;refine SA jb (fun j4 io en => ?_);have ac := pb io ac;have fo := pb io fo;have bb := pb io bb;have jc := pb io jc;have fm := plw io fm;have j5 := psz io;refine SA jc (fun jm ip e8 => ?_);have ac := pb ip ac;have fo := pb ip fo;have bb := pb ip bb;have en := pb ip en;have fm := plw ip fm;have j6 := psz ip;refine go ?_;refine c_lp [(7, 7), (17, 28)] (fun kk e W => ∃ f : Nat, ∃ z : Nat, ∃ k : Nat, (f = kk) ∧ (e 7 = .int .i64 k) ∧ (lgF f n z k = some p) ∧ (0 < z) ∧ (z ≤ n) ∧ (z < 10 ^ 81) ∧ (k + f ≤ 100) ∧ (jm.heap.size ≤ W.heap.size) ∧ (Ext w W) ∧ (Blk W (w.heap.size) 54 #[.int .i64 pl, S (nS sO)]) ∧ (Blk W (i8.heap.size) 56 #[S ([]), S ([])]) ∧ (Blk W (iy.heap.size) 25 #[S ([50]), S ([49])]) ∧ (Blk W (i6.heap.size) 25 #[S ([49]), S ([49])]) ∧ (Blk W (ij.heap.size) 25 #[S ((qR (((n : Nat)) : Int) (((z : Nat)) : Int)).1), S ((qR (((n : Nat)) : Int) (((z : Nat)) : Int)).2)])) ((100)) ⟨100, d, 0, rfl, rfl, hp, hd0, hdn, om, om, (Nat.le_refl _), fm, ac, bb, en, e8, fo⟩ ?_
 rintro j7 j8 j9 ⟨f, z, k, rfl, je, hf, he0, hen, heb, hkf, ka, fj, ac, bb, en, e8, hbx⟩;have kb := bz fj;by_cases hl : 2 * z < n;obtain ⟨g, rfl, hh2⟩ := lg_t hf hl;refine go ?_;refine clb en49 (hc := qCmpL rfl q21 (q9n om om om) q9l2 (ht.ext fj)) (hk := ?_);rintro ke kf iq rfl;have ac := be iq.2 ac;have bb := be iq.2 bb;have en := be iq.2 en;have e8 := be iq.2 e8;have hbx := be iq.2 hbx;have fj := xt fj iq.2;have zq1q := log_gt hl;refine go ?_;refine clb en218 (hc := cEq (Y := .tuple #[.agg #[S ((qR (((n : Nat)) : Int) (((2 * z : Nat)) : Int)).1), S ((qR (((n : Nat)) : Int) (((2 * z : Nat)) : Int)).2)], .int .i64 (0)]) (qDivL rfl q21 (q9n om om om) q9l2 dc (ht.ext fj)) half_q) (hk := ?_);rintro kg kh ir rfl;have ac := be ir.2 ac;have bb := be ir.2 bb;have en := be ir.2 en;have e8 := be ir.2 e8;have hbx := be ir.2 hbx;have fj := xt fj ir.2;refine go ?_;refine SA hbx (fun ki iu jn => ?_);have ac := pb iu ac;have bb := pb iu bb;have en := pb iu en;have e8 := pb iu e8;have fj := plw iu fj;have kj := psz iu;refine go ?_;refine l_op (k_add (a := (k : Int)) (b := 1) (c := ((k + 1 : Nat) : Int)) rfl rfl (by unfold In64; omega) om ?_);refine go ?_;exact lend ⟨g, 2 * z, k + 1, rfl, rfl, hh2, om, om, om, om, om, fj, ac, bb, en, e8, jn⟩
 have hpe := lg_f hf hl;subst hpe;have hby := byP_bd (n := k) (d := 1) (m := 9) dc hxb om;refine go ?_;refine clb en49 (hc := qCmpL rfl q21 (q9n om om om) q9l2 (ht.ext fj)) (hk := ?_);rintro km kn iv rfl;have ac := be iv.2 ac;have bb := be iv.2 bb;have en := be iv.2 en;have e8 := be iv.2 e8;have hbx := be iv.2 hbx;have fj := xt fj iv.2;have zq2q := log_le hl;refine go ?_;refine clb en220 (hc := cEq (Y := .tuple #[.agg #[S ((qR (((n - z : Nat)) : Int) (((z : Nat)) : Int)).1), S ((qR (((n - z : Nat)) : Int) (((z : Nat)) : Int)).2)], .int .i64 (0)]) (qSubL rfl q11 (q9n om om om) q9l1 (ht.ext fj)) (sub_q hen)) (hk := ?_);rintro ko jf iw rfl;have ac := be iw.2 ac;have bb := be iw.2 bb;have en := be iw.2 en;have e8 := be iw.2 e8;have hbx := be iw.2 hbx;have fj := xt fj iw.2;refine go ?_;refine al inf36 (fun kp ix jo => ?_);have ac := be ix.2 ac;have bb := be ix.2 bb;have en := be ix.2 en;have e8 := be ix.2 e8;have hbx := be ix.2 hbx;have fj := xt fj ix.2;refine SA jo (fun kq ik fe => ?_);have ac := pb ik ac;have bb := pb ik bb;have en := pb ik en;have e8 := pb ik e8;have hbx := pb ik hbx;have fj := plw ik fj;have kr := psz ik;refine go ?_;refine clb en217 (hc := cEq (Y := .tuple #[.agg #[S ((qR (((n + z : Nat)) : Int) (((z : Nat)) : Int)).1), S ((qR (((n + z : Nat)) : Int) (((z : Nat)) : Int)).2)], .int .i64 (0)]) (qAddL rfl q11 (q9n om om om) q9l1 (ht.ext fj)) add_q) (hk := ?_)
 rintro ks jg il rfl;have ac := be il.2 ac;have bb := be il.2 bb;have en := be il.2 en;have e8 := be il.2 e8;have hbx := be il.2 hbx;have fe := be il.2 fe;have fj := xt fj il.2;refine go ?_;refine al inf36 (fun kt im jp => ?_);have ac := be im.2 ac;have bb := be im.2 bb;have en := be im.2 en;have e8 := be im.2 e8;have hbx := be im.2 hbx;have fe := be im.2 fe;have fj := xt fj im.2;refine SA jp (fun ku g9 fg => ?_);have ac := pb g9 ac;have bb := pb g9 bb;have en := pb g9 en;have e8 := pb g9 e8;have hbx := pb g9 hbx;have fe := pb g9 fe;have fj := plw g9 fj;have kv := psz g9;refine go ?_;refine clb en218 (hc := cEq (Y := .tuple #[.agg #[S ((qR (((n - z : Nat)) : Int) (((n + z : Nat)) : Int)).1), S ((qR (((n - z : Nat)) : Int) (((n + z : Nat)) : Int)).2)], .int .i64 (0)]) (qDivL rfl rfl (q9n om om om) (q9n om om om) om (ht.ext fj)) (div_q he0)) (hk := ?_);rintro kw jh ia rfl;have ac := be ia.2 ac;have bb := be ia.2 bb;have en := be ia.2 en;have e8 := be ia.2 e8;have hbx := be ia.2 hbx;have fe := be ia.2 fe;have fg := be ia.2 fg;have fj := xt fj ia.2;refine go ?_;refine al inf36 (fun ky ic jq => ?_);have ac := be ic.2 ac;have bb := be ic.2 bb;have en := be ic.2 en;have e8 := be ic.2 e8
 have hbx := be ic.2 hbx;have fe := be ic.2 fe;have fg := be ic.2 fg;have fj := xt fj ic.2;refine SA jq (fun jr gi fh => ?_);have ac := pb gi ac;have bb := pb gi bb;have en := pb gi en;have e8 := pb gi e8;have hbx := pb gi hbx;have fe := pb gi fe;have fg := pb gi fg;have fj := plw gi fj;have kz := psz gi;refine go ?_;refine c_an 6 ?_;refine sf ?_;refine sf_ae (V := .agg #[S (nS ((ofP sO 1 3).1)), S (nS ((ofP sO 1 3).2))]) (fun lk ll gj ln => ?_) ?_;refine clb en1032 (hc := spOfL_ok (n := 1) (d := 3) lit1 lit3 hS fi1 (fi_pow (k := 1) dc dc) dc (by rw [Nat.one_mul]; exact hS.fi) (ht.ext (xt fj gj))) (hk := ?_);rintro lu lv gk rfl;have js := gk.2;refine go ?_;exact fs ⟨js, rfl⟩;refine sf_ae (V := .agg #[S (nS x.1), S (nS x.2)]) (fun lw lx gl lz => ?_) ?_;refine cl en1077 (artanh_ok hS hx (ht.ext (xt fj gl))) ?_;rintro l0 l3 gm rfl;have jt := gm.2;refine go ?_;exact fs ⟨jt, rfl⟩;refine sf_ah (fun v wz => ∃ b : Nat, v = .pointer (some ⟨b, 0, none⟩) ∧ jr.heap.size ≤ b ∧ Blk wz b 56 #[S ([]), S ([])]) (hs := fun _ _ _ k ⟨b, e, l, h⟩ => ⟨b, e, l, h.ext k⟩) (fun l4 l5 gp l6 => ?_) ?_;refine al inf1056 (fun l7 gq ju => ?_);have jv := gq.2;refine go ?_;exact fs ⟨jv, ⟨_, rfl, (by have := bz gp; omega), ju⟩⟩;refine sf ?_;intro l8 l9 gu jw;have ac := be gu.2 ac;have bb := be gu.2 bb
 have en := be gu.2 en;have e8 := be gu.2 e8;have hbx := be gu.2 hbx;have fe := be gu.2 fe;have fg := be gu.2 fg;have fh := be gu.2 fh;have fj := xt fj gu.2;obtain ⟨ji, jj, ma, jk⟩ := (jw 5 14 rfl rfl);have mb := bt jk;refine SA jk (fun mc fp fk => ?_);have ac := pb fp ac;have bb := pb fp bb;have en := pb fp en;have e8 := pb fp e8;have hbx := pb fp hbx;have fe := pb fp fe;have fg := pb fp fg;have fh := pb fp fh;have fj := plw fp fj;have me := psz fp;refine go ?_;refine c_an 10 ?_;refine sf ?_;refine sf_ae (V := .agg #[S (nS ((ofP sO (n - z) (n + z)).1)), S (nS ((ofP sO (n - z) (n + z)).2))]) (fun mx my fq mz => ?_) ?_;refine clb en1032 (hc := spOfQ_ok (a := (n - z)) (b := (n + z)) hS om om om (ht.ext (xt fj fq))) (hk := ?_);rintro m0 m4 fw rfl;have jx := fw.2;refine go ?_;exact fs ⟨jx, rfl⟩;refine sf_ae (V := .agg #[S (nS a.1), S (nS a.2)]) (fun m5 m6 f6 m7 => ?_) ?_;refine cl en1077 (artanh_ok hS ha (ht.ext (xt fj f6))) ?_;rintro m8 m9 f7 rfl;have jy := f7.2;refine go ?_;exact fs ⟨jy, rfl⟩;refine sf ?_;refine sf_ae (V := .agg #[S (nS ((byP x (k) 1).1)), S (nS ((byP x (k) 1).2))]) (fun nn nu f8 nw => ?_) ?_;refine clb en1070 (hc := spBy_ok (hxb.mono dc) om dc dc (ht.ext (xt fj f8))) (hk := ?_);rintro nz n3 gc rfl;have jz := gc.2
 refine go ?_;exact fs ⟨jz, rfl⟩;refine sf ?_;intro n4 n6 gd n7;have ac := be gd.2 ac;have bb := be gd.2 bb;have en := be gd.2 en;have e8 := be gd.2 e8;have hbx := be gd.2 hbx;have fe := be gd.2 fe;have fg := be gd.2 fg;have fh := be gd.2 fh;have fk := be gd.2 fk;have fj := xt fj gd.2;refine clb en1078 (hc := spPlus_ok (by have := hab.1; have := hby.1; unfold Fi; omega) (by have := hab.2; have := hby.2; unfold Fi; omega) (ht.ext fj)) (hk := ?_);rintro n8 n9 gg rfl;have ac := be gg.2 ac;have bb := be gg.2 bb;have en := be gg.2 en;have e8 := be gg.2 e8;have hbx := be gg.2 hbx;have fe := be gg.2 fe;have fg := be gg.2 fg;have fh := be gg.2 fh;have fk := be gg.2 fk;have fj := xt fj gg.2;refine SA bb (fun oa gh j2 => ?_);have ac := pb gh ac;have en := pb gh en;have e8 := pb gh e8;have hbx := pb gh hbx;have fe := pb gh fe;have fg := pb gh fg;have fh := pb gh fh;have fk := pb gh fk;have fj := plw gh fj;have oc := psz gh;refine go ?_;refine f_out (v := .agg #[S (nS ((plP a (byP x (k) 1)).1)), S (nS ((plP a (byP x (k) 1)).2))]) (res1  rfl ?_) fj rfl;refine res_cellA (t := 4) (cs := [S (nS ((plP a (byP x (k) 1)).1)), S (nS ((plP a (byP x (k) 1)).2))]) (b := i8.heap.size) (o := 0) U1056 rfl sz1056 ?_ ?_;exact rfl;exact Blk.cells j2 (i := 0) rfl
end Go.Proofs.YteojhdahhaodoaaGreatDoor
namespace Go.Proofs.YteojhdahhaodoaaGreatDoor
set_option maxRecDepth 100000
open Go Go.Eng Go.RowKit
theorem callsDIn_of_wpS {n : Nat} {P : Program} {f : FuncId} {fn : Func} {c : Code} {args : Array Value} {u : FrameMode} {w : World} {R : Ending → FrameMode → World → Prop}
    (hf : P.funcs[f]? = some fn) (hb : fn.body = some c)
    (h : ∀ (c₀ : Frame) (cs : List Frame), c₀.mode = u →
      c.wpS P (bodyPostS P fn c₀ cs R) { tmps := args ++ Array.replicate (fn.ntmps - args.size) undef, defers := [] } (c₀ :: cs) w) :
    CallsDIn Fence.wide n P f args u w R := by
  refine ⟨trivial, fun c₀ cs hu _ => ?_⟩
  let b : Frame := { (default : Frame) with fn := f, kind := .deferred }
  have henter : Frame.enter P f args .deferred =
      b.at { tmps := args ++ Array.replicate (fn.ntmps - args.size) undef, defers := [] } [.code c] := by
    simp [Frame.enter, Frame.at, hf, hb, b]
  obtain ⟨e, a', cs', w', hq, harr⟩ := h c₀ cs hu b [] rfl rfl
  rw [← henter] at harr
  cases e with
  | normal =>
    obtain ⟨hd, u', rfl, v, hr, hR⟩ := hq
    exact ⟨.returned v, u', w', _, hR, comesIn_wide.2 (Steps.trans harr (.one step_end)), rfl, rfl, rfl, hd, fn, hf, hr⟩
  | ret =>
    obtain ⟨hd, u', rfl, v, hr, hR⟩ := hq
    obtain ⟨todo, hs⟩ := harr
    exact ⟨.returned v, u', w', _, hR, comesIn_wide.2 hs, rfl, rfl, rfl, hd, fn, hf, hr⟩
  | panic chain =>
    obtain ⟨hd, u', rfl, hR⟩ := hq
    obtain ⟨todo, hs⟩ := harr
    exact ⟨.panicked chain, u', w', _, hR, comesIn_wide.2 hs, rfl, rfl, rfl, hd, fn, hf⟩
  | exit id => exact hq.elim
  | goto l => exact hq.elim
  | outgrown =>
    obtain ⟨u', hR⟩ := hq
    exact ⟨.outgrown, u', w', b, hR, harr.resolve_left (by simp [b]), rfl, rfl, trivial⟩
theorem dIn {n : Nat} {P : Program} {f : FuncId} {fn : Func} {c : Code} {args : List Value} {u : FrameMode} {w : World} {R : Ending → FrameMode → World → Prop}
    (hf : P.funcs[f]? = some fn) (hb : fn.body = some c)
    (h : ∀ (c₀ : Frame) (cs : List Frame), c₀.mode = u → c.wpS P (bodyPostS P fn c₀ cs R) (act (args.length + (fn.ntmps - args.length)) (ent args) []) (c₀ :: cs) w) : CallsDIn Fence.wide n P f args.toArray u w R := by
  refine callsDIn_of_wpS hf hb (fun c₀ cs hu => ?_)
  rw [act_start]
  exact h c₀ cs hu
section
variable {P : Program} {r : Option Nat} {n N : Nat} {e : Nat → Value} {ds : List Deferred} {w : World} {Q : Exit → Act → World → Prop} {K : Act → World → Prop}
variable {d ty : Nat} {pos : String} {af : Array Edge} {ats : Array TypeId} {g : Option (Nat × Bool)} {v u : Value} {x y : Operand} {t t' : TypeId}
theorem k_deferV {f : FuncId} {lb : List Value} (hx : ev N e x = .func (.func f) #[] lb.toArray) (hk : K (act N e ({ target := .fn (.func f) lb.toArray, args := #[] } :: ds)) w) :
    Oper.wpIn (Fw none) n P ⟨none, .defer { callee := .value x, args := #[], argTypes := ats }, ty, pos, af, g⟩ (act N e ds) w K Q := by
  refine ⟨fun f _ => Fw_fn none f, ?_⟩
  rw [Fw_round, Oper.semAt_none, act_eval]
  have : (execOp (ev N e) (⟨none, .defer { callee := .value x, args := #[], argTypes := ats }, ty, pos, af, g⟩ : Oper)).run P w = .ok (.defer { target := .fn (.func f) lb.toArray, args := #[] }) w := by
    simp [execOp, resolve, Deferred.ofValue, hx]
  rw [this]
  exact hk
end
section
variable {P : Program} {N i : Nat} {e : Nat → Value} {w : World} {d id ty : Nat} {pos : String} {af : Array Edge} {ats : Array TypeId} {cs : List Frame} {v : Value} {Q : Exit → Act → List Frame → World → Prop} {ops : Array Oper} {rest : List Nat} {op : Op} {dst : Option Tmp}
theorem s_reg0 (hn : List.range ops.size = 0 :: rest) (h0 : ops[0]? = some ⟨some d, .call { callee := .builtin .recover, args := #[], argTypes := ats }, ty, pos, af, none⟩) (hr : recoverD cs = none) (h : wpOpsS P ops Q rest (act N (upd e d .nilIface) []) cs w) :
    (Code.region id ops false).wpS P Q (act N e []) cs w := by
  refine wpS_region ?_
  rw [hn]
  have hx : (execOp (act N e []).eval ⟨some d, .call { callee := .builtin .recover, args := #[], argTypes := ats }, ty, pos, af, none⟩).run P w = .ok .recover w := by
    simp [execOp, resolve, invoke, builtin]
  simp only [wpOpsS, h0, Region.wanted, if_true, hx, hr]
  rw [act_put]
  exact h
theorem so_val (h0 : ops[i]? = some ⟨some d, op, ty, pos, af, none⟩) (hx : (execOp (ev N e) (⟨some d, op, ty, pos, af, none⟩ : Oper)).run P w = .ok (.value v) w) (h : wpOpsS P ops Q rest (act N (upd e d v) []) cs w) :
    wpOpsS P ops Q (i :: rest) (act N e []) cs w := by
  have hx' : (execOp (act N e []).eval (⟨some d, op, ty, pos, af, none⟩ : Oper)).run P w = .ok (.value v) w := by rw [act_eval]; exact hx
  simp only [wpOpsS, h0, Region.wanted, if_true, hx']
  show wpOpsS P ops Q rest ((act N e []).put (some d) v) cs w
  rw [act_put]
  exact h
theorem so_nil (h : Q .normal (act N e []) cs w) : wpOpsS P ops Q [] (act N e []) cs w := h
end
theorem s_reg7 {P : Program} {N : Nat} {e : Nat → Value} {w : World} {d id ty : Nat} {pos : String} {af : Array Edge} {ats : Array TypeId} {cs : List Frame} {Q : Exit → Act → List Frame → World → Prop}
    {d1 ty1 d2 ty2 d3 ty3 d4 ty4 d5 ty5 d6 ty6 : Nat} {pos1 pos2 pos3 pos4 pos5 pos6 : String} {af1 af2 af3 af4 af5 af6 : Array Edge} {op1 op2 op3 op4 op5 op6 : Op} {v1 v2 v3 v4 v5 v6 : Value}
    (hr : recoverD cs = none) (h1 : (execOp (ev N (upd e d .nilIface)) (⟨some d1, op1, ty1, pos1, af1, none⟩ : Oper)).run P w = .ok (.value v1) w) (h2 : (execOp (ev N (upd (upd e d .nilIface) d1 v1)) (⟨some d2, op2, ty2, pos2, af2, none⟩ : Oper)).run P w = .ok (.value v2) w) (h3 : (execOp (ev N (upd (upd (upd e d .nilIface) d1 v1) d2 v2)) (⟨some d3, op3, ty3, pos3, af3, none⟩ : Oper)).run P w = .ok (.value v3) w) (h4 : (execOp (ev N (upd (upd (upd (upd e d .nilIface) d1 v1) d2 v2) d3 v3)) (⟨some d4, op4, ty4, pos4, af4, none⟩ : Oper)).run P w = .ok (.value v4) w) (h5 : (execOp (ev N (upd (upd (upd (upd (upd e d .nilIface) d1 v1) d2 v2) d3 v3) d4 v4)) (⟨some d5, op5, ty5, pos5, af5, none⟩ : Oper)).run P w = .ok (.value v5) w) (h6 : (execOp (ev N (upd (upd (upd (upd (upd (upd e d .nilIface) d1 v1) d2 v2) d3 v3) d4 v4) d5 v5)) (⟨some d6, op6, ty6, pos6, af6, none⟩ : Oper)).run P w = .ok (.value v6) w) (h : Q .normal (act N (upd (upd (upd (upd (upd (upd (upd e d .nilIface) d1 v1) d2 v2) d3 v3) d4 v4) d5 v5) d6 v6) []) cs w) :
    (Code.region id #[⟨some d, .call { callee := .builtin .recover, args := #[], argTypes := ats }, ty, pos, af, none⟩, ⟨some d1, op1, ty1, pos1, af1, none⟩, ⟨some d2, op2, ty2, pos2, af2, none⟩, ⟨some d3, op3, ty3, pos3, af3, none⟩, ⟨some d4, op4, ty4, pos4, af4, none⟩, ⟨some d5, op5, ty5, pos5, af5, none⟩, ⟨some d6, op6, ty6, pos6, af6, none⟩] false).wpS P Q (act N e []) cs w :=
  s_reg0 (rest := [1, 2, 3, 4, 5, 6]) rfl rfl hr (so_val rfl h1 (so_val rfl h2 (so_val rfl h3 (so_val rfl h4 (so_val rfl h5 (so_val rfl h6 (so_nil h)))))))
theorem cmpI_ret {n b1 b2 : Nat} {w : World} :
    CallsDIn Fence.wide n Tryz.prog 97 #[.pointer (some ⟨b1, 0, none⟩), .pointer (some ⟨b2, 0, none⟩)] .returning w (fun e u' w' => (∃ v, e = .returned v) ∧ u' = .returning ∧ w' = w) := by
  refine dIn (args := [.pointer (some ⟨b1, 0, none⟩), .pointer (some ⟨b2, 0, none⟩)]) Tryz.func97 rfl (fun c₀ cs hu => ?_)
  refine wpS_seq ?_
  refine s_reg7 (v1 := .tuple #[.nilIface, .bool false]) (v2 := .tuple #[.nilIface, .bool false]) (v3 := .nilIface) (v4 := .bool false) (v5 := .nilIface) (v6 := .bool false) (by simp [recoverD, hu]) ?_ ?_ ?_ ?_ ?_ ?_ ?_
  · have h : (Instr.typeAssert .nilIface 20 118 true).run Tryz.prog w = .ok (.tuple #[.nilIface, .bool false]) w := by
      unfold Instr.typeAssert
      simp [run_underlying Tryz.underlying118]
    simp only [execOp]
    exact congrArg (fun r => Result.andThen r fun a w' => Result.ok (Next.value a) w') h
  · rfl
  · rfl
  · rfl
  · rfl
  · rfl
  refine wpS_of_wp (wpIn_wide (n := 0).1 ?_)
  refine c_seq (r := none) ?_
  refine c_reg (r := none) ?_
  refine l_op (r := none) (k_move (v := .bool false) rfl ?_)
  refine l_op (r := none) (k_move (v := .bool false) rfl ?_)
  with_reducible refine l_not (r := none) (d := 12) (s := 11) ?_ ?_ ?_
  exact rfl
  exact rfl
  with_reducible refine l_not (r := none) (d := 13) (s := 11) ?_ ?_ ?_
  exact rfl
  exact rfl
  with_reducible refine l_not (r := none) (d := 14) (s := 11) ?_ ?_ ?_
  exact rfl
  exact rfl
  refine l_op (r := none) (k_pick (t := false) (v := .bool false) rfl rfl ?_)
  refine l_nil ?_
  refine n_then ?_
  refine c_false (r := none) rfl ?_
  refine c_skip (r := none) ?_
  exact ⟨rfl, .returning, by rw [← hu], _, res0 rfl, ⟨_, rfl⟩, rfl, rfl⟩
theorem cmpR_ret {n b1 b2 : Nat} {w : World} :
    CallsDIn Fence.wide n Tryz.prog 130 #[.pointer (some ⟨b1, 0, none⟩), .pointer (some ⟨b2, 0, none⟩)] .returning w (fun e u' w' => (∃ v, e = .returned v) ∧ u' = .returning ∧ w' = w) := by
  refine dIn (args := [.pointer (some ⟨b1, 0, none⟩), .pointer (some ⟨b2, 0, none⟩)]) Tryz.func130 rfl (fun c₀ cs hu => ?_)
  refine wpS_seq ?_
  refine s_reg7 (v1 := .tuple #[.nilIface, .bool false]) (v2 := .tuple #[.nilIface, .bool false]) (v3 := .nilIface) (v4 := .bool false) (v5 := .nilIface) (v6 := .bool false) (by simp [recoverD, hu]) ?_ ?_ ?_ ?_ ?_ ?_ ?_
  · have h : (Instr.typeAssert .nilIface 20 118 true).run Tryz.prog w = .ok (.tuple #[.nilIface, .bool false]) w := by
      unfold Instr.typeAssert
      simp [run_underlying Tryz.underlying118]
    simp only [execOp]
    exact congrArg (fun r => Result.andThen r fun a w' => Result.ok (Next.value a) w') h
  · rfl
  · rfl
  · rfl
  · rfl
  · rfl
  refine wpS_of_wp (wpIn_wide (n := 0).1 ?_)
  refine c_seq (r := none) ?_
  refine c_reg (r := none) ?_
  refine l_op (r := none) (k_move (v := .bool false) rfl ?_)
  refine l_op (r := none) (k_move (v := .bool false) rfl ?_)
  with_reducible refine l_not (r := none) (d := 12) (s := 11) ?_ ?_ ?_
  exact rfl
  exact rfl
  with_reducible refine l_not (r := none) (d := 13) (s := 11) ?_ ?_ ?_
  exact rfl
  exact rfl
  with_reducible refine l_not (r := none) (d := 14) (s := 11) ?_ ?_ ?_
  exact rfl
  exact rfl
  refine l_op (r := none) (k_pick (t := false) (v := .bool false) rfl rfl ?_)
  refine l_nil ?_
  refine n_then ?_
  refine c_false (r := none) rfl ?_
  refine c_skip (r := none) ?_
  exact ⟨rfl, .returning, by rw [← hu], _, res0 rfl, ⟨_, rfl⟩, rfl, rfl⟩
abbrev dV (g b1 b2 : Nat) : Deferred := { target := .fn (.func g) [Value.pointer (some ⟨b1, 0, none⟩), Value.pointer (some ⟨b2, 0, none⟩)].toArray, args := #[] }
def RetsN (g b1 b2 : Nat) : Prop := ∀ (n : Nat) (w : World), CallsDIn Fence.wide n Tryz.prog g #[.pointer (some ⟨b1, 0, none⟩), .pointer (some ⟨b2, 0, none⟩)] .returning w (fun e u' w' => (∃ v, e = .returned v) ∧ u' = .returning ∧ w' = w)
theorem f_inT {P : Program} {f : FuncId} {fn : Func} {c : Code} {args : List Value} {w : World} {R : Ending → World → Prop} (hf : P.funcs[f]? = some fn) (hb : fn.body = some c)
    (h : c.wpIn (Fw none) 0 P (bodyPostDIn Fence.wide 0 P fn R) (act (args.length + (fn.ntmps - args.length)) (ent args) []) w) : Calls P f args.toArray w R := by
  refine callsIn_wide.1 (callsIn_of_wp_defers (n := 0) hf hb trivial ?_)
  rw [act_start]
  exact h
theorem t_retV {fn : Func} {N g b1 b2 : Nat} {e : Nat → Value} {w w' : World} {R : Value → World → Prop} {v : Value} (hg : Enters Tryz.prog g) (hc : RetsN g b1 b2) (hx : Ext w w') (hr : (results fn (act N e [dV g b1 b2]).tmps).run Tryz.prog w' = .ok v w') (hR : R v w') :
    bodyPostDIn Fence.wide 0 Tryz.prog fn (Ret w R) .ret (act N e [dV g b1 b2]) w' := by
  refine leavesIn_cons (f := g) (args := #[.pointer (some ⟨b1, 0, none⟩), .pointer (some ⟨b2, 0, none⟩)]) (by simp) (by simp [Fence.wide]) ?_ (fun _ _ => trivial) ?_
  · have h := hg #[.pointer (some ⟨b1, 0, none⟩), .pointer (some ⟨b2, 0, none⟩)] w'
    simpa [invoke] using h
  · refine CallsDIn.mono (hc _ _) ?_
    rintro e' u' w'' ⟨⟨v', rfl⟩, rfl, rfl⟩
    exact ⟨v, hr, hx, hR⟩
end Go.Proofs.YteojhdahhaodoaaGreatDoor
namespace Go.Proofs.YteojhdahhaodoaaGreatDoor
set_option maxRecDepth 100000
open Go Go.Eng Go.RowKit
attribute [local irreducible] wpListIn Code.wpIn Oper.wpIn Exit.then Exit.inBlock Exit.noGoto
set_option maxHeartbeats 40000000
def IvR (x : R × R) : Prop := ∃ a b c d, x.1 = qR a b ∧ x.2 = qR c d ∧ Q9 a b ∧ Q9 c d ∧ a * d ≤ c * b
def cellsI (l : List (R × R)) : List Value := l.flatMap fun x => [S x.1.1, S x.1.2, S x.2.1, S x.2.2]
def iAt (l : List (R × R)) (i : Nat) : R × R := l.getD i (([], []), ([], []))
theorem cellsI_get : ∀ {l : List (R × R)} {i : Nat}, i < l.length → (cellsI l)[i * 4]? = some (S (iAt l i).1.1) ∧ (cellsI l)[i * 4 + 1]? = some (S (iAt l i).1.2) ∧ (cellsI l)[i * 4 + 2]? = some (S (iAt l i).2.1) ∧ (cellsI l)[i * 4 + 3]? = some (S (iAt l i).2.2)
  | a :: t, 0, _ => by simp [cellsI, iAt]
  | a :: t, i + 1, h => by
    have ih := cellsI_get (l := t) (i := i) (by simpa using h)
    rw [show (i + 1) * 4 = i * 4 + 4 by omega, show i * 4 + 4 + 1 = i * 4 + 1 + 4 by omega, show i * 4 + 4 + 2 = i * 4 + 2 + 4 by omega, show i * 4 + 4 + 3 = i * 4 + 3 + 4 by omega]
    simpa [cellsI, iAt] using ih
theorem rw_quad {w : World} {lo i : Nat} {A : Option Addr} {l : List (R × R)} (h : Rw w lo A (cellsI l)) (hi : i < l.length) :
    ∃ b o, A = some ⟨b, o, none⟩ ∧ ∀ j u, [S (iAt l i).1.1, S (iAt l i).1.2, S (iAt l i).2.1, S (iAt l i).2.2][j]? = some u → w.cell? ⟨b, o + i * 4 + j, none⟩ = some u := by
  obtain ⟨h1, h2, h3, h4⟩ := cellsI_get hi
  obtain ⟨b, o, hA, hc1⟩ := h.cells _ _ h1
  obtain ⟨b2, o2, hA2, hc2⟩ := h.cells _ _ h2
  obtain ⟨b3, o3, hA3, hc3⟩ := h.cells _ _ h3
  obtain ⟨b4, o4, hA4, hc4⟩ := h.cells _ _ h4
  rw [hA] at hA2 hA3 hA4; cases hA2; cases hA3; cases hA4
  refine ⟨b, o, hA, fun j u hu => ?_⟩
  match j, hu with
  | 0, hu => simp at hu; subst hu; simpa using hc1
  | 1, hu => simp at hu; subst hu; simpa [Nat.add_assoc] using hc2
  | 2, hu => simp at hu; subst hu; simpa [Nat.add_assoc] using hc3
  | 3, hu => simp at hu; subst hu; simpa [Nat.add_assoc] using hc4
theorem iAt_mem {l : List (R × R)} {i : Nat} (h : i < l.length) : iAt l i ∈ l := by unfold iAt; simp [h]
theorem okL {l m : List UInt8} {a b : Int} (e : (l, m) = qR a b) (h : Q9 a b) : okR (l, m) = true := e ▸ h.ok
theorem encCheck_ok {w : World} :
    Calls Tryz.prog 99 #[.bool (true)] w (Ret w fun v w' => v = .tuple #[]) := by
 refine f_in Tryz.func99 rfl ?_;refine go ?_;exact f_end (res0 rfl) (Ext.refl _) rfl
theorem encValid_ok {x : R × R} {w : World} (hx : IvR x) (ht : Tb w) :
    Calls Tryz.prog 56 #[.agg #[S (x.1.1), S (x.1.2), S (x.2.1), S (x.2.2)]] w (Ret w fun v w' => v = .bool true) := by
 obtain ⟨a, b, c, d, e1, e2, q1, q2, hle⟩ := hx;refine f_in Tryz.func56 rfl ?_;refine go ?_;refine bx (fun fh fg ac => ?_);have bb := fg.2;refine go ?_;refine cl en82 (cB (rValid_ok _ _ _ (ht.ext bb)) (okL e1 q1)) ?_;rintro fj fk en rfl;have ac := be en.2 ac;have bb := xt bb en.2;refine go ?_;refine cl en82 (cB (rValid_ok _ _ _ (ht.ext bb)) (okL e2 q2)) ?_;rintro fm fo e8 rfl;have ac := be e8.2 ac;have bb := xt bb e8.2;refine go ?_;refine cl en49 (qCmpL e1 e2 q1 q2 (ht.ext bb)) ?_;rintro fp fq fe rfl;have bb := xt bb fe.2;refine go ?_;exact f_ret1 (t := 2) (v := .bool (decide ((cmpI (a * d) (c * b)) ≤ 0))) rfl bb (congrArg Value.bool (decide_eq_true (cmpI_nonpos.2 hle))) rfl
theorem encNotI_ok {x : R × R} {w : World} (hx : IvR x) (ht : Tb w) :
    Calls Tryz.prog 101 #[.agg #[S (x.1.1), S (x.1.2), S (x.2.1), S (x.2.2)]] w (Ret w fun v w' => v = .bool false) := by
 refine f_in Tryz.func101 rfl ?_;refine go ?_;refine bx (fun fe e8 bb => ?_);have ac := e8.2;refine go ?_;refine l_op (k_loadA (cs := [S (x.1.1), S (x.1.2), S (x.2.1), S (x.2.2)]) (b := w.heap.size) (o := 0) U1032 rfl sz1032 rfl (Blk.cells bb (i := 0) rfl) ?_);refine cl en1056 (encValid_ok hx (ht.ext ac)) ?_;rintro fg fh en rfl;have ac := xt ac en.2;refine go ?_;exact f_ret1 (t := 2) (v := .bool (false)) rfl ac rfl rfl
theorem encNotR_ok {x : R × R} {w : World} (hx : IvR x) (ht : Tb w) :
    Calls Tryz.prog 131 #[.agg #[S (x.1.1), S (x.1.2), S (x.2.1), S (x.2.2)]] w (Ret w fun v w' => v = .bool false) := by
 refine f_in Tryz.func131 rfl ?_;refine go ?_;refine bx (fun fe e8 bb => ?_);have ac := e8.2;refine go ?_;refine l_op (k_loadA (cs := [S (x.1.1), S (x.1.2), S (x.2.1), S (x.2.2)]) (b := w.heap.size) (o := 0) U1032 rfl sz1032 rfl (Blk.cells bb (i := 0) rfl) ?_);refine cl en1056 (encValid_ok hx (ht.ext ac)) ?_;rintro fg fh en rfl;have ac := xt ac en.2;refine go ?_;exact f_ret1 (t := 2) (v := .bool (false)) rfl ac rfl rfl
theorem index_ok {A : Option Addr} {n cp lo g : Nat} {l : List (R × R)} {w : World} (hr : Rw w lo A (cellsI l)) (hn : l.length = n) (hb : n ≤ 1000) (hg : Enters Tryz.prog g) (hf : ∀ i < n, ∀ W, Ext w W → Calls Tryz.prog g #[.agg #[S (iAt l i).1.1, S (iAt l i).1.2, S (iAt l i).2.1, S (iAt l i).2.2]] W (Ret W fun v _ => v = .bool false)) :
    Calls Tryz.prog 135 #[.slice (A) (n) (cp), .func (.func g) #[] #[]] w (Ret w fun v w' => v = .int .i64 (-1)) := by
 refine f_in Tryz.func135 rfl ?_;refine go ?_;have en := Ext.refl w;refine c_lp [(4, 5), (8, 18)] (fun kk e W => ∃ i : Nat, (n - i = kk) ∧ (e 8 = .int .i64 i) ∧ (i ≤ n) ∧ (Ext w W)) (n - (0)) ⟨0, rfl, rfl, (Nat.zero_le _), en⟩ ?_;rintro fe fg fh ⟨i, rfl, bb, hi, ac⟩;have fj := bz ac;by_cases hl : i < n;obtain ⟨bk, o, hA, hcs⟩ := rw_quad (hr.ext ac) (i := i) om;refine go ?_;refine l_op (k_indexAddr (i := i) (oo := o + i * 4) U1116 sz1032 rfl hA rfl om rfl ?_);refine l_op (k_loadA (cs := [S (iAt l i).1.1, S (iAt l i).1.2, S (iAt l i).2.1, S (iAt l i).2.2]) (b := bk) (o := o + i * 4) U1032 rfl sz1032 rfl hcs ?_);refine l_op (clV (vs := [.agg #[S (iAt l i).1.1, S (iAt l i).1.2, S (iAt l i).2.1, S (iAt l i).2.2]]) (lb := []) hg rfl rfl (hf i om _ ac) ?_);rintro fk fm e8 rfl;have ac := xt ac e8.2;refine go ?_;refine l_op (k_add (a := (i : Int)) (b := 1) (c := ((i + 1 : Nat) : Int)) bb rfl (by unfold In64; omega) om ?_);refine go ?_;exact lend ⟨i + 1, rfl, rfl, om, ac⟩;refine go ?_;exact f_ret1 (t := 4) (v := .int .i64 ((-1))) rfl ac rfl rfl
theorem contains_ok {A : Option Addr} {n cp lo g : Nat} {l : List (R × R)} {w : World} (hr : Rw w lo A (cellsI l)) (hn : l.length = n) (hb : n ≤ 1000) (hg : Enters Tryz.prog g) (hf : ∀ i < n, ∀ W, Ext w W → Calls Tryz.prog g #[.agg #[S (iAt l i).1.1, S (iAt l i).1.2, S (iAt l i).2.1, S (iAt l i).2.2]] W (Ret W fun v _ => v = .bool false)) :
    Calls Tryz.prog 100 #[.slice (A) (n) (cp), .func (.func g) #[] #[]] w (Ret w fun v w' => v = .bool false) := by
 refine f_in Tryz.func100 rfl ?_;refine go ?_;refine cl en1135 (index_ok (hr.ext (Ext.refl _)) hn hb hg (fun i hi W e => hf i hi W (xt (Ext.refl _) e))) ?_;rintro en e8 ac rfl;have bb := ac.2;refine go ?_;exact f_ret1 (t := 4) (v := .bool (false)) rfl bb rfl rfl
end Go.Proofs.YteojhdahhaodoaaGreatDoor
namespace Go.Proofs.YteojhdahhaodoaaGreatDoor
set_option maxRecDepth 100000
open Go Go.Eng Go.RowKit
attribute [local irreducible] wpListIn Code.wpIn Oper.wpIn Exit.then Exit.inBlock Exit.noGoto
set_option maxHeartbeats 40000000
theorem computeI_ok {gf n cp lo : Nat} {lb : List Value} {A : Option Addr} {l : List (R × R)} {x : R × R} {w : World} (hg : Enters Tryz.prog gf) (hr : Rw w lo A (cellsI l)) (hn : l.length = n) (hb : n ≤ 1000) (hv : ∀ x ∈ l, IvR x) (hc : ∀ W, Ext w W → Calls Tryz.prog gf lb.toArray W (Ret W fun v _ => v = .agg #[S (x.1.1), S (x.1.2), S (x.2.1), S (x.2.2)])) (ht : Tb w) :
    Calls Tryz.prog 53 #[.func (.func gf) #[] lb.toArray, .slice (A) (n) (cp)] w (Ret w fun v w' => v = .tuple #[.agg #[S (x.1.1), S (x.1.2), S (x.2.1), S (x.2.2)], .int .i64 0]) := by
 refine f_inT Tryz.func53 rfl ?_;refine go ?_;refine al inf1032 (fun e8 fp bb => ?_);have ac := fp.2;refine al inf32 (fun fw fo en => ?_);have bb := be fo.2 bb;have ac := xt ac fo.2;refine go ?_;refine l_op (k_makeFunc (vf := []) (vc := [.pointer (some ⟨w.heap.size, 0, none⟩), .pointer (some ⟨e8.heap.size, 0, none⟩)]) rfl rfl ?_);refine l_op (k_deferV (lb := [.pointer (some ⟨w.heap.size, 0, none⟩), .pointer (some ⟨e8.heap.size, 0, none⟩)]) rfl ?_);refine go ?_;refine clb en1100 (hc := contains_ok (hr.ext ac) hn hb en1101 (fun i hi W e => encNotI_ok (hv _ (iAt_mem om)) ((ht.ext ac).ext e))) (hk := ?_);rintro f6 f7 fe rfl;have bb := be fe.2 bb;have en := be fe.2 en;have ac := xt ac fe.2;refine go ?_;refine cl en1099 (encCheck_ok) ?_;rintro f8 gc fg rfl;have bb := be fg.2 bb;have en := be fg.2 en;have ac := xt ac fg.2;refine go ?_;refine l_op (clV (f := gf) (lb := lb) (vs := []) hg rfl rfl (hc _ ac) ?_);rintro gd gg fh rfl;have bb := be fh.2 bb;have en := be fh.2 en;have ac := xt ac fh.2;refine SA bb (fun gh fj fk => ?_);have en := pb fj en;have ac := plw fj ac;have gi := psz fj;refine SO en (fun gj fm fq => ?_);have fk := pb fm fk;have ac := plw fm ac;have gk := psz fm;refine go ?_;refine t_retV (b1 := w.heap.size) (b2 := e8.heap.size) (v := .tuple #[.agg #[S (x.1.1), S (x.1.2), S (x.2.1), S (x.2.2)], .int .i64 0]) en1097 (fun _ _ => cmpI_ret) ac (res2 (r1 := .cell 4 32) (r2 := .cell 5 27) rfl ?_ ?_) rfl
 refine res_cellA (t := 4) (cs := [S (x.1.1), S (x.1.2), S (x.2.1), S (x.2.2)]) (b := w.heap.size) (o := 0) U1032 rfl sz1032 ?_ ?_;exact rfl;exact Blk.cells fk (i := 0) rfl;refine res_cell (t := 5) (b := e8.heap.size) (o := 0) U32 rfl ?_ ?_;exact rfl;exact Blk.cell fq rfl
theorem computeR_ok {gf n cp lo : Nat} {lb : List Value} {A : Option Addr} {l : List (R × R)} {x : R} {w : World} (hg : Enters Tryz.prog gf) (hr : Rw w lo A (cellsI l)) (hn : l.length = n) (hb : n ≤ 1000) (hv : ∀ x ∈ l, IvR x) (hc : ∀ W, Ext w W → Calls Tryz.prog gf lb.toArray W (Ret W fun v _ => v = .agg #[S (x.1), S (x.2)])) (ht : Tb w) :
    Calls Tryz.prog 92 #[.func (.func gf) #[] lb.toArray, .slice (A) (n) (cp)] w (Ret w fun v w' => v = .tuple #[.agg #[S (x.1), S (x.2)], .int .i64 0]) := by
 refine f_inT Tryz.func92 rfl ?_;refine go ?_;refine al inf36 (fun e8 fp bb => ?_);have ac := fp.2;refine al inf32 (fun fw fo en => ?_);have bb := be fo.2 bb;have ac := xt ac fo.2;refine go ?_;refine l_op (k_makeFunc (vf := []) (vc := [.pointer (some ⟨w.heap.size, 0, none⟩), .pointer (some ⟨e8.heap.size, 0, none⟩)]) rfl rfl ?_);refine l_op (k_deferV (lb := [.pointer (some ⟨w.heap.size, 0, none⟩), .pointer (some ⟨e8.heap.size, 0, none⟩)]) rfl ?_);refine go ?_;refine clb en1100 (hc := contains_ok (hr.ext ac) hn hb en1131 (fun i hi W e => encNotR_ok (hv _ (iAt_mem om)) ((ht.ext ac).ext e))) (hk := ?_);rintro f6 f7 fe rfl;have bb := be fe.2 bb;have en := be fe.2 en;have ac := xt ac fe.2;refine go ?_;refine cl en1099 (encCheck_ok) ?_;rintro f8 gc fg rfl;have bb := be fg.2 bb;have en := be fg.2 en;have ac := xt ac fg.2;refine go ?_;refine l_op (clV (f := gf) (lb := lb) (vs := []) hg rfl rfl (hc _ ac) ?_);rintro gd gg fh rfl;have bb := be fh.2 bb;have en := be fh.2 en;have ac := xt ac fh.2;refine SA bb (fun gh fj fk => ?_);have en := pb fj en;have ac := plw fj ac;have gi := psz fj;refine SO en (fun gj fm fq => ?_);have fk := pb fm fk;have ac := plw fm ac;have gk := psz fm;refine go ?_;refine t_retV (b1 := w.heap.size) (b2 := e8.heap.size) (v := .tuple #[.agg #[S (x.1), S (x.2)], .int .i64 0]) en1130 (fun _ _ => cmpR_ret) ac (res2 (r1 := .cell 4 25) (r2 := .cell 5 27) rfl ?_ ?_) rfl
 refine res_cellA (t := 4) (cs := [S (x.1), S (x.2)]) (b := w.heap.size) (o := 0) U36 rfl sz36 ?_ ?_;exact rfl;exact Blk.cells fk (i := 0) rfl;refine res_cell (t := 5) (b := e8.heap.size) (o := 0) U32 rfl ?_ ?_;exact rfl;exact Blk.cell fq rfl
theorem must_ok {l m : List UInt8} {w : World} :
    Calls Tryz.prog 89 #[.agg #[S (l), S (m)], .int .i64 (0)] w (Ret w fun v w' => v = .agg #[S (l), S (m)]) := by
 refine f_in Tryz.func89 rfl ?_;refine go ?_;refine bx (fun fg fj ac => ?_);have bb := fj.2;refine al inf36 (fun fm fh en => ?_);have ac := be fh.2 ac;have bb := xt bb fh.2;refine go ?_;refine cl en1099 (encCheck_ok) ?_;rintro fo fp e8 rfl;have ac := be e8.2 ac;have en := be e8.2 en;have bb := xt bb e8.2;refine go ?_;refine SA en (fun fq fe fk => ?_);have ac := pb fe ac;have bb := plw fe bb;have fw := psz fe;refine go ?_;refine f_out (v := .agg #[S (l), S (m)]) (res1  rfl ?_) bb rfl;refine res_cellA (t := 4) (cs := [S (l), S (m)]) (b := fg.heap.size) (o := 0) U36 rfl sz36 ?_ ?_;exact rfl;exact Blk.cells fk (i := 0) rfl
end Go.Proofs.YteojhdahhaodoaaGreatDoor
namespace Go.Proofs.YteojhdahhaodoaaGreatDoor
set_option maxRecDepth 100000
open Go Go.Eng Go.RowKit
attribute [local irreducible] wpListIn Code.wpIn Oper.wpIn Exit.then Exit.inBlock Exit.noGoto
set_option maxHeartbeats 40000000
def flI (a b t : Int) : Int := a * t / b
def clI (a b t : Int) : Int := if a * t % b = 0 then a * t / b else a * t / b + 1
theorem red_div {a b t : Int} (hb : 0 < b) : redN a b * t / redD a b = a * t / b ∧ (redN a b * t % redD a b = 0 ↔ a * t % b = 0) := by
  have h1 := rq_n (n := a) hb
  have h2 := rq_d (n := a) hb
  have hg := gcd_pos (n := a) hb
  generalize redN a b = p at *
  generalize redD a b = q at *
  generalize ((Int.gcd a b : Nat) : Int) = g at *
  subst h1 h2
  rw [show p * g * t = p * t * g by grind]
  refine ⟨(Int.mul_ediv_mul_of_pos_left _ _ hg).symm, ?_⟩
  rw [Int.mul_comm (p * t) g, Int.mul_comm q g, Int.mul_emod_mul_of_pos _ _ hg]
  constructor
  · intro h; rw [h, Int.mul_zero]
  · intro h; rcases Int.mul_eq_zero.1 h with h | h; omega; exact h
theorem rd_fl {a b t : Int} (hb : 0 < b) : rdI (redN a b) (redD a b) t false = flI a b t := by
  unfold rdI flI; rw [if_neg (fun e => absurd e.1 dc), (red_div hb).1]
theorem rd_cl {a b t : Int} (hb : 0 < b) : rdI (redN a b) (redD a b) t true = clI a b t := by
  unfold rdI clI
  rw [(red_div hb).1]
  by_cases h : a * t % b = 0
  · rw [if_pos h, if_neg (fun e => e.2 (showI_zero.2 ((red_div hb).2.2 h)))]
  · rw [if_neg h, if_pos ⟨rfl, fun e => h ((red_div hb).2.1 (showI_zero.1 e))⟩]
def tenI (pl : Nat) : Int := ((10 ^ pl : Nat) : Int)
theorem ten_pos (pl : Nat) : 0 < tenI pl := by unfold tenI; have := Nat.pow_pos (n := pl) (show 0 < 10 by decide); omega
theorem ten_le {pl : Nat} (h : pl ≤ 30) : tenI pl ≤ 10 ^ 30 := by
  unfold tenI
  have h1 : (10 : Nat) ^ pl ≤ 10 ^ 30 := Nat.pow_le_pow_right dc h
  have h2 : (((10 : Nat) ^ 30 : Nat) : Int) = (10 : Int) ^ 30 := by decide
  omega
theorem rd_bound {a b : Int} {pl : Nat} (h : Q9 a b) (hp : pl ≤ 30) : (redN a b * tenI pl).natAbs < 10 ^ 199 := by
  have h1 := h.red.1
  have h2 : (tenI pl).natAbs ≤ 10 ^ 30 := by have := ten_le hp; have := ten_pos pl; omega
  rw [Int.natAbs_mul]
  have h3 : (redN a b).natAbs * (tenI pl).natAbs ≤ 10 ^ 90 * 10 ^ 30 := Nat.mul_le_mul om h2
  have h4 : 10 ^ 90 * 10 ^ 30 < 10 ^ 199 := by decide
  omega
theorem qDown_ok {l m : List UInt8} {a b : Int} {pl : Nat} {w : World} (e : (l, m) = qR a b) (h : Q9 a b) (hp : pl ≤ 30) (ht : Tb w) : Calls Tryz.prog 90 #[.agg #[S l, S m], .int .i64 pl] w (Ret w fun v _ => v = Qv (flI a b (tenI pl)) (tenI pl)) := by
  rw [show l = (qR a b).1 from congrArg Prod.fst e, show m = (qR a b).2 from congrArg Prod.snd e]
  exact cEq (rDown_ok h.ok (fz_rn h.2.1 h.fz.1) (fz_rd h.2.1 h.fz.2) hp (rd_bound h hp) ht) (congrArg (fun z => Qv z (tenI pl)) (rd_fl h.2.1))
theorem qUp_ok {l m : List UInt8} {a b : Int} {pl : Nat} {w : World} (e : (l, m) = qR a b) (h : Q9 a b) (hp : pl ≤ 30) (ht : Tb w) : Calls Tryz.prog 91 #[.agg #[S l, S m], .int .i64 pl] w (Ret w fun v _ => v = Qv (clI a b (tenI pl)) (tenI pl)) := by
  rw [show l = (qR a b).1 from congrArg Prod.fst e, show m = (qR a b).2 from congrArg Prod.snd e]
  exact cEq (rUp_ok h.ok (fz_rn h.2.1 h.fz.1) (fz_rd h.2.1 h.fz.2) hp (rd_bound h hp) ht) (congrArg (fun z => Qv z (tenI pl)) (rd_cl h.2.1))
theorem round1_ok {b1 b2 pl : Nat} {a b c d : Int} {x : R × R} {w : World} (e1 : x.1 = qR a b) (e2 : x.2 = qR c d) (q1 : Q9 a b) (q2 : Q9 c d) (hb1 : Blk w b1 32 #[S x.1.1, S x.1.2, S x.2.1, S x.2.2]) (hb2 : Blk w b2 3 #[.int .i64 pl]) (hp : pl ≤ 30) (ht : Tb w) :
    Calls Tryz.prog 88 #[.pointer (some ⟨b1, 0, none⟩), .pointer (some ⟨b2, 0, none⟩)] w (Ret w fun v w' => v = .agg #[S ((qR (flI a b (tenI pl)) (tenI pl)).1), S ((qR (flI a b (tenI pl)) (tenI pl)).2), S ((qR (clI c d (tenI pl)) (tenI pl)).1), S ((qR (clI c d (tenI pl)) (tenI pl)).2)]) := by
 have zb1 := bt hb1;have zb2 := bt hb2;refine f_in Tryz.func88 rfl ?_;refine go ?_;refine al inf1032 (fun gp fo ac => ?_);have hb1 := be fo.2 hb1;have hb2 := be fo.2 hb2;have bb := fo.2;refine go ?_;refine c_an 13 ?_;refine sf ?_;refine sf_ae (V := .tuple #[.agg #[S ((qR (flI a b (tenI pl)) (tenI pl)).1), S ((qR (flI a b (tenI pl)) (tenI pl)).2)], .int .i64 (0)]) (fun g9 ia en ic => ?_) ?_;refine cl en1090 (qDown_ok e1 q1 hp (ht.ext (xt bb en))) ?_;rintro ie ig e8 rfl;have gj := e8.2;refine go ?_;exact fs ⟨gj, rfl⟩;refine sf ?_;refine sf_ae (V := .agg #[S ((qR (flI a b (tenI pl)) (tenI pl)).1), S ((qR (flI a b (tenI pl)) (tenI pl)).2)]) (fun ip iq f8 ir => ?_) ?_;refine cl en1089 (must_ok) ?_;rintro iu iv fe rfl;have gk := fe.2;refine go ?_;exact fs ⟨gk, rfl⟩;refine sf ?_;refine sf_ae (V := .tuple #[.agg #[S ((qR (clI c d (tenI pl)) (tenI pl)).1), S ((qR (clI c d (tenI pl)) (tenI pl)).2)], .int .i64 (0)]) (fun jc jd fg je => ?_) ?_;refine cl en1091 (qUp_ok e2 q2 hp (ht.ext (xt bb fg))) ?_;rintro jf jg fh rfl;have gl := fh.2;refine go ?_;exact fs ⟨gl, rfl⟩;refine sf ?_;intro jn jo fj jp;have hb1 := be fj.2 hb1;have hb2 := be fj.2 hb2;have ac := be fj.2 ac;have bb := xt bb fj.2;refine cl en1089 (must_ok) ?_;rintro jq jr fk rfl;have hb1 := be fk.2 hb1;have hb2 := be fk.2 hb2;have ac := be fk.2 ac;have bb := xt bb fk.2;refine l_op (k_build (vs := [(0, .agg #[S ((qR (flI a b (tenI pl)) (tenI pl)).1), S ((qR (flI a b (tenI pl)) (tenI pl)).2)]), (1, .agg #[S ((qR (clI c d (tenI pl)) (tenI pl)).1), S ((qR (clI c d (tenI pl)) (tenI pl)).2)])]) (cells := #[S ((qR (flI a b (tenI pl)) (tenI pl)).1), S ((qR (flI a b (tenI pl)) (tenI pl)).2), S ((qR (clI c d (tenI pl)) (tenI pl)).1), S ((qR (clI c d (tenI pl)) (tenI pl)).2)]) (pl := [(0, 2), (2, 2)]) U1032 inf1032 (by kernel_rfl) rfl (by kernel_rfl) ?_)
 refine SA ac (fun js fm gm => ?_);have hb1 := pb fm hb1;have hb2 := pb fm hb2;have bb := plw fm bb;have jt := psz fm;refine go ?_;refine f_out (v := .agg #[S ((qR (flI a b (tenI pl)) (tenI pl)).1), S ((qR (flI a b (tenI pl)) (tenI pl)).2), S ((qR (clI c d (tenI pl)) (tenI pl)).1), S ((qR (clI c d (tenI pl)) (tenI pl)).2)]) (res1  rfl ?_) bb rfl;refine res_cellA (t := 2) (cs := [S ((qR (flI a b (tenI pl)) (tenI pl)).1), S ((qR (flI a b (tenI pl)) (tenI pl)).2), S ((qR (clI c d (tenI pl)) (tenI pl)).1), S ((qR (clI c d (tenI pl)) (tenI pl)).2)]) (b := w.heap.size) (o := 0) U1032 rfl sz1032 ?_ ?_;exact rfl;exact Blk.cells gm (i := 0) rfl
theorem round_ok {pl : Nat} {a b c d : Int} {x : R × R} {w : World} (e1 : x.1 = qR a b) (e2 : x.2 = qR c d) (q1 : Q9 a b) (q2 : Q9 c d) (hle : a * d ≤ c * b) (hp : pl ≤ 30) (ht : Tb w) :
    Calls Tryz.prog 48 #[.agg #[S (x.1.1), S (x.1.2), S (x.2.1), S (x.2.2)], .int .i64 pl] w (Ret w fun v w' => v = .tuple #[.agg #[S ((qR (flI a b (tenI pl)) (tenI pl)).1), S ((qR (flI a b (tenI pl)) (tenI pl)).2), S ((qR (clI c d (tenI pl)) (tenI pl)).1), S ((qR (clI c d (tenI pl)) (tenI pl)).2)], .int .i64 0]) := by
 refine f_in Tryz.func48 rfl ?_;refine go ?_;refine bx (fun fk fp bb => ?_);have ac := fp.2;refine bx (fun fm fo en => ?_);have bb := be fo.2 bb;have ac := xt ac fo.2;refine al inf1032 (fun fq fj e8 => ?_);have bb := be fj.2 bb;have en := be fj.2 en;have ac := xt ac fj.2;refine go ?_;refine l_op (k_makeFunc (vf := []) (vc := [.pointer (some ⟨w.heap.size, 0, none⟩), .pointer (some ⟨fk.heap.size, 0, none⟩)]) rfl rfl ?_);refine l_op (k_loadA (cs := [S (x.1.1), S (x.1.2), S (x.2.1), S (x.2.2)]) (b := w.heap.size) (o := 0) U1032 rfl sz1032 rfl (Blk.cells bb (i := 0) rfl) ?_);refine BS (fun f7 fe f8 fw => ?_);have bb := be fe bb;have en := be fe en;have e8 := be fe e8;have ac := xt ac fe;have gc := bz fe;refine clb en1053 (hc := computeI_ok (l := [x]) (x := (qR (flI a b (tenI pl)) (tenI pl), qR (clI c d (tenI pl)) (tenI pl))) en1088 (Rw.of_own fw) rfl (by simp) (fun y hy => by rw [List.mem_singleton.1 hy]; exact ⟨a, b, c, d, e1, e2, q1, q2, hle⟩) (fun W e => round1_ok e1 e2 q1 q2 (bb.ext e) (en.ext e) hp ((ht.ext ac).ext e)) (ht.ext ac)) (hk := ?_);rintro gd gg fg rfl;have bb := be fg.2 bb;have en := be fg.2 en;have e8 := be fg.2 e8;have ac := xt ac fg.2;refine go ?_;refine SA e8 (fun gh fh f6 => ?_);have bb := pb fh bb;have en := pb fh en;have ac := plw fh ac;have gi := psz fh;refine go ?_;refine f_out (v := .tuple #[.agg #[S ((qR (flI a b (tenI pl)) (tenI pl)).1), S ((qR (flI a b (tenI pl)) (tenI pl)).2), S ((qR (clI c d (tenI pl)) (tenI pl)).1), S ((qR (clI c d (tenI pl)) (tenI pl)).2)], .int .i64 (0)]) (res2 (r1 := .cell 4 32) (r2 := .tmp 5) rfl ?_ ?_) ac rfl
 refine res_cellA (t := 4) (cs := [S ((qR (flI a b (tenI pl)) (tenI pl)).1), S ((qR (flI a b (tenI pl)) (tenI pl)).2), S ((qR (clI c d (tenI pl)) (tenI pl)).1), S ((qR (clI c d (tenI pl)) (tenI pl)).2)]) (b := fm.heap.size) (o := 0) U1032 rfl sz1032 ?_ ?_;exact rfl;exact Blk.cells f6 (i := 0) rfl;exact res_tmp (t := 5) (by exact rfl) _
theorem width1_ok {b1 : Nat} {a b c d : Int} {x : R × R} {w : World} (e1 : x.1 = qR a b) (e2 : x.2 = qR c d) (q1 : Q9 a b) (q2 : Q9 c d) (hb1 : Blk w b1 32 #[S x.1.1, S x.1.2, S x.2.1, S x.2.2]) (ht : Tb w) :
    Calls Tryz.prog 93 #[.pointer (some ⟨b1, 0, none⟩)] w (Ret w fun v w' => v = .agg #[S ((qR (c * b - a * d) (d * b)).1), S ((qR (c * b - a * d) (d * b)).2)]) := by
 have zb1 := bt hb1;refine f_in Tryz.func93 rfl ?_;refine go ?_;refine al inf36 (fun fj fg bb => ?_);have hb1 := be fg.2 hb1;have ac := fg.2;refine go ?_;refine cl en220 (qSubL e2 e1 q2 q1 (ht.ext ac)) ?_;rintro fk fm en rfl;have hb1 := be en.2 hb1;have bb := be en.2 bb;have ac := xt ac en.2;refine go ?_;refine cl en1089 (must_ok) ?_;rintro fo fp e8 rfl;have hb1 := be e8.2 hb1;have bb := be e8.2 bb;have ac := xt ac e8.2;refine SA bb (fun fq fe fh => ?_);have hb1 := pb fe hb1;have ac := plw fe ac;have fw := psz fe;refine go ?_;refine f_out (v := .agg #[S ((qR (c * b - a * d) (d * b)).1), S ((qR (c * b - a * d) (d * b)).2)]) (res1  rfl ?_) ac rfl;refine res_cellA (t := 1) (cs := [S ((qR (c * b - a * d) (d * b)).1), S ((qR (c * b - a * d) (d * b)).2)]) (b := w.heap.size) (o := 0) U36 rfl sz36 ?_ ?_;exact rfl;exact Blk.cells fh (i := 0) rfl
theorem width_ok {a b c d : Int} {x : R × R} {w : World} (e1 : x.1 = qR a b) (e2 : x.2 = qR c d) (q1 : Q9 a b) (q2 : Q9 c d) (hle : a * d ≤ c * b) (ht : Tb w) :
    Calls Tryz.prog 49 #[.agg #[S (x.1.1), S (x.1.2), S (x.2.1), S (x.2.2)]] w (Ret w fun v w' => v = .tuple #[.agg #[S ((qR (c * b - a * d) (d * b)).1), S ((qR (c * b - a * d) (d * b)).2)], .int .i64 0]) := by
 refine f_in Tryz.func49 rfl ?_;refine go ?_;refine bx (fun fh fk bb => ?_);have ac := fk.2;refine al inf36 (fun fm fj en => ?_);have bb := be fj.2 bb;have ac := xt ac fj.2;refine go ?_;refine l_op (k_makeFunc (vf := []) (vc := [.pointer (some ⟨w.heap.size, 0, none⟩)]) rfl rfl ?_);refine l_op (k_loadA (cs := [S (x.1.1), S (x.1.2), S (x.2.1), S (x.2.2)]) (b := w.heap.size) (o := 0) U1032 rfl sz1032 rfl (Blk.cells bb (i := 0) rfl) ?_);refine BS (fun fq e8 fw fo => ?_);have bb := be e8 bb;have en := be e8 en;have ac := xt ac e8;have f6 := bz e8;refine clb en1092 (hc := computeR_ok (l := [x]) (x := qR (c * b - a * d) (d * b)) en1093 (Rw.of_own fo) rfl (by simp) (fun y hy => by rw [List.mem_singleton.1 hy]; exact ⟨a, b, c, d, e1, e2, q1, q2, hle⟩) (fun W e => width1_ok e1 e2 q1 q2 (bb.ext e) ((ht.ext ac).ext e)) (ht.ext ac)) (hk := ?_);rintro f7 f8 fe rfl;have bb := be fe.2 bb;have en := be fe.2 en;have ac := xt ac fe.2;refine go ?_;refine SA en (fun gc fg fp => ?_);have bb := pb fg bb;have ac := plw fg ac;have gd := psz fg;refine go ?_;refine f_out (v := .tuple #[.agg #[S ((qR (c * b - a * d) (d * b)).1), S ((qR (c * b - a * d) (d * b)).2)], .int .i64 (0)]) (res2 (r1 := .cell 2 25) (r2 := .tmp 3) rfl ?_ ?_) ac rfl;refine res_cellA (t := 2) (cs := [S ((qR (c * b - a * d) (d * b)).1), S ((qR (c * b - a * d) (d * b)).2)]) (b := fh.heap.size) (o := 0) U36 rfl sz36 ?_ ?_
 exact rfl;exact Blk.cells fp (i := 0) rfl;exact res_tmp (t := 3) (by exact rfl) _
theorem point_ok {l m : List UInt8} {a b : Int} {w : World} (e1 : (l, m) = qR a b) (q1 : Q9 a b) (ht : Tb w) :
    Calls Tryz.prog 19 #[.agg #[S (l), S (m)]] w (Ret w fun v w' => v = .agg #[S (l), S (m), S (l), S (m)]) := by
 refine f_in Tryz.func19 rfl ?_;refine go ?_;refine bx (fun fg fj ac => ?_);have bb := fj.2;refine al inf1032 (fun fm fh en => ?_);have ac := be fh.2 ac;have bb := xt bb fh.2;refine go ?_;refine cl en82 (cB (rValid_ok _ _ _ (ht.ext bb)) (okL e1 q1)) ?_;rintro fo fp e8 rfl;have ac := be e8.2 ac;have en := be e8.2 en;have bb := xt bb e8.2;refine go ?_;refine l_op (k_build (vs := [(0, .agg #[S (l), S (m)]), (1, .agg #[S (l), S (m)])]) (cells := #[S (l), S (m), S (l), S (m)]) (pl := [(0, 2), (2, 2)]) U1032 inf1032 (by kernel_rfl) rfl (by kernel_rfl) ?_);refine SA en (fun fq fe fk => ?_);have ac := pb fe ac;have bb := plw fe bb;have fw := psz fe;refine go ?_;refine f_out (v := .agg #[S (l), S (m), S (l), S (m)]) (res1  rfl ?_) bb rfl;refine res_cellA (t := 2) (cs := [S (l), S (m), S (l), S (m)]) (b := fg.heap.size) (o := 0) U1032 rfl sz1032 ?_ ?_;exact rfl;exact Blk.cells fk (i := 0) rfl
end Go.Proofs.YteojhdahhaodoaaGreatDoor
namespace Go.Proofs.YteojhdahhaodoaaGreatDoor
open Go Go.Eng Go.RowKit
theorem g36 : Tryz.prog.eqGuardType Tryz.prog.depth 25 = false := by kernel_rfl
theorem st36 : Tryz.prog.stoodInHeld 25 = false := by kernel_rfl
theorem part9 (w : World) (cs : Array Value) (i : Nat) (v : Value) (h : cs[i]? = some v) : (part 9 cs i).run Tryz.prog w = .ok v w := by
  unfold part
  simp [isAgg, run_underlying Tryz.underlying9, h]
theorem eq9 (w : World) (a b : List UInt8) (d : Nat) : (Op.equalIn (d + 1) 9 (S a) (S b)).run Tryz.prog w = .ok (decide (a = b)) w := by
  unfold Op.equalIn
  simp [run_underlying Tryz.underlying9, S]
  have h : ∀ x y : ByteArray, (x == y) = (x.data == y.data) := fun x y => by cases x; cases y; rfl
  rw [h]
  exact Bool.eq_iff_iff.2 (by simp)
theorem eq36 (w : World) (a b : R) : (Op.equal 25 (.agg #[S a.1, S a.2]) (.agg #[S b.1, S b.2])).run Tryz.prog w = .ok (decide (a = b)) w := by
  unfold Op.equal Op.maxDepth
  show (Op.equalIn (9998 + 1 + 1) 25 _ _).run _ _ = _
  unfold Op.equalIn
  obtain ⟨a1, a2⟩ := a
  obtain ⟨b1, b2⟩ := b
  have p1 := part9 w #[S a1, S a2] 0 (S a1) rfl
  have p2 := part9 w #[S a1, S a2] 1 (S a2) rfl
  have p3 := part9 w #[S b1, S b2] 0 (S b1) rfl
  have p4 := part9 w #[S b1, S b2] 1 (S b2) rfl
  have e1 := eq9 w a1 b1 9998
  have e2 := eq9 w a2 b2 9998
  simp [run_underlying Tryz.underlying25, st36, p1, p2, p3, p4, e1, e2]
  by_cases h1 : a1 = b1 <;> by_cases h2 : a2 = b2 <;> simp [h1, h2]
section
variable {r : Option Nat} {n N : Nat} {e : Nat → Value} {ds : List Deferred} {w : World} {Q : Exit → Act → World → Prop} {K : Act → World → Prop}
variable {d ty : Nat} {pos : String} {af : Array Edge} {g : Option (Nat × Bool)} {v u : Value} {x y : Operand} {t t' : TypeId}
theorem guard36 {op : BinOp} (x y : Operand) (a b : Array Value) : (eqGuard op 25 x y (.agg a) (.agg b)).run Tryz.prog w = .ok () w := by
  unfold eqGuard
  cases op <;> simp [g36]
theorem k_eqlR {a b : R} {q : Bool} (hx : ev N e x = .agg #[S a.1, S a.2]) (hy : ev N e y = .agg #[S b.1, S b.2]) (hq : decide (a = b) = q) (hk : K (act N (upd e d (.bool q)) ds) w) :
    Oper.wpIn (Fw r) n Tryz.prog ⟨some d, .binOp .eql 25 x y t', ty, pos, af, g⟩ (act N e ds) w K Q :=
  k_bin hx hy (guard36 ..) (by subst hq; simp [binOp, eq36]) hk
theorem k_neqR {a b : R} {q : Bool} (hx : ev N e x = .agg #[S a.1, S a.2]) (hy : ev N e y = .agg #[S b.1, S b.2]) (hq : (!decide (a = b)) = q) (hk : K (act N (upd e d (.bool q)) ds) w) :
    Oper.wpIn (Fw r) n Tryz.prog ⟨some d, .binOp .neq 25 x y t', ty, pos, af, g⟩ (act N e ds) w K Q :=
  k_bin hx hy (guard36 ..) (by subst hq; simp [binOp, eq36]) hk
end
theorem g1032 : Tryz.prog.eqGuardType Tryz.prog.depth 32 = false := by kernel_rfl
theorem st1032 : Tryz.prog.stoodInHeld 32 = false := by kernel_rfl
theorem eq36d (w : World) (a b : R) (d : Nat) : (Op.equalIn (d + 1 + 1) 25 (.agg #[S a.1, S a.2]) (.agg #[S b.1, S b.2])).run Tryz.prog w = .ok (decide (a = b)) w := by
  unfold Op.equalIn
  obtain ⟨a1, a2⟩ := a
  obtain ⟨b1, b2⟩ := b
  have p1 := part9 w #[S a1, S a2] 0 (S a1) rfl
  have p2 := part9 w #[S a1, S a2] 1 (S a2) rfl
  have p3 := part9 w #[S b1, S b2] 0 (S b1) rfl
  have p4 := part9 w #[S b1, S b2] 1 (S b2) rfl
  have e1 := eq9 w a1 b1 d
  have e2 := eq9 w a2 b2 d
  simp [run_underlying Tryz.underlying25, st36, p1, p2, p3, p4, e1, e2]
  by_cases h1 : a1 = b1 <;> by_cases h2 : a2 = b2 <;> simp [h1, h2]
abbrev Iv (x : R × R) : Value := .agg #[S x.1.1, S x.1.2, S x.2.1, S x.2.2]
section
variable {P : Program} {r : Option Nat} {n N : Nat} {e : Nat → Value} {ds : List Deferred} {w : World} {Q : Exit → Act → World → Prop} {K : Act → World → Prop}
variable {d ty : Nat} {pos : String} {af : Array Edge} {g : Option (Nat × Bool)} {v u : Value} {x y : Operand} {t t' : TypeId}
theorem k_field {fs : Array Field} {f : Field} {cs : List Value} {k off ft : Nat} {D : TypeDesc} (hu : P.underlying t = some (.struct fs)) (hf : fs[k]? = some f) (ho : f.offset = off) (hft : f.type = ft) (hD : P.underlying ft = some D) (hd : D.isRow = false)
    (hx : ev N e x = .agg cs.toArray) (hv : cs[off]? = some v) (hk : K (act N (upd e d v) ds) w) : Oper.wpIn (Fw r) n P ⟨some d, .field t x k, ty, pos, af, g⟩ (act N e ds) w K Q := by
  subst ho hft
  refine k_val (v := v) (w' := w) rfl ?_ (by rw [act_put]; exact hk)
  have hagg : (isAgg f.type).run P w = .ok false w := by
    unfold isAgg
    rw [Sem.run_bind, run_underlying hD w]
    cases D <;> simp_all
  have hv' : cs.toArray[f.offset]? = some v := by rw [List.getElem?_toArray]; exact hv
  simp [execOp, hx, Instr.field, run_underlying hu, hf, asAgg, part, hagg, hv]
end
end Go.Proofs.YteojhdahhaodoaaGreatDoor
namespace Go.Proofs.YteojhdahhaodoaaGreatDoor
open Go Go.Eng Go.RowKit
theorem part36a (w : World) (a b c d : List UInt8) : (part 25 #[S a, S b, S c, S d] 0).run Tryz.prog w = .ok (.agg #[S a, S b]) w := by
  unfold part
  simp [isAgg, run_underlying Tryz.underlying25]
theorem part36b (w : World) (a b c d : List UInt8) : (part 25 #[S a, S b, S c, S d] 2).run Tryz.prog w = .ok (.agg #[S c, S d]) w := by
  unfold part
  simp [isAgg, run_underlying Tryz.underlying25]
theorem eq1032 (w : World) (x y : R × R) : (Op.equal 32 (Iv x) (Iv y)).run Tryz.prog w = .ok (decide (x = y)) w := by
  unfold Op.equal Op.maxDepth
  show (Op.equalIn (9997 + 1 + 1 + 1) 32 _ _).run _ _ = _
  unfold Op.equalIn
  obtain ⟨⟨a1, a2⟩, a3, a4⟩ := x
  obtain ⟨⟨b1, b2⟩, b3, b4⟩ := y
  have p1 := part36a w a1 a2 a3 a4
  have p2 := part36b w a1 a2 a3 a4
  have p3 := part36a w b1 b2 b3 b4
  have p4 := part36b w b1 b2 b3 b4
  have e1 := eq36d w (a1, a2) (b1, b2) 9997
  have e2 := eq36d w (a3, a4) (b3, b4) 9997
  simp only [] at e1 e2
  simp [run_underlying Tryz.underlying32, st1032, p1, p2, p3, p4, e1, e2]
  by_cases h1 : a1 = b1 <;> by_cases h2 : a2 = b2 <;> by_cases h3 : a3 = b3 <;> by_cases h4 : a4 = b4 <;> simp [h1, h2, h3, h4]
section
variable {r : Option Nat} {n N : Nat} {e : Nat → Value} {ds : List Deferred} {w : World} {Q : Exit → Act → World → Prop} {K : Act → World → Prop}
variable {d ty : Nat} {pos : String} {af : Array Edge} {g : Option (Nat × Bool)} {v u : Value} {x y : Operand} {t t' : TypeId}
theorem guard1032 {op : BinOp} (x y : Operand) (a b : Array Value) : (eqGuard op 32 x y (.agg a) (.agg b)).run Tryz.prog w = .ok () w := by
  unfold eqGuard
  cases op <;> simp [g1032]
theorem k_eqlI {a b : R × R} {q : Bool} (hx : ev N e x = Iv a) (hy : ev N e y = Iv b) (hq : decide (a = b) = q) (hk : K (act N (upd e d (.bool q)) ds) w) :
    Oper.wpIn (Fw r) n Tryz.prog ⟨some d, .binOp .eql 32 x y t', ty, pos, af, g⟩ (act N e ds) w K Q :=
  k_bin hx hy (guard1032 ..) (by subst hq; simp [binOp, eq1032]) hk
theorem k_neqI {a b : R × R} {q : Bool} (hx : ev N e x = Iv a) (hy : ev N e y = Iv b) (hq : (!decide (a = b)) = q) (hk : K (act N (upd e d (.bool q)) ds) w) :
    Oper.wpIn (Fw r) n Tryz.prog ⟨some d, .binOp .neq 32 x y t', ty, pos, af, g⟩ (act N e ds) w K Q :=
  k_bin hx hy (guard1032 ..) (by subst hq; simp [binOp, eq1032]) hk
end
end Go.Proofs.YteojhdahhaodoaaGreatDoor
namespace Go.Proofs.YteojhdahhaodoaaGreatDoor
set_option maxRecDepth 100000
open Go Go.Eng Go.RowKit
attribute [local irreducible] wpListIn Code.wpIn Oper.wpIn Exit.then Exit.inBlock Exit.noGoto
set_option maxHeartbeats 40000000
theorem ivr_point {r : R} {a b : Int} (e : r = qR a b) (h : Q9 a b) : IvR (r, r) := ⟨a, b, a, b, e, e, h, h, Int.le_refl _⟩
theorem encContains_ok {a b c d m n : Int} {x : R × R} {r : R} {w : World} (hx : IvR x) (e1 : x.1 = qR a b) (e2 : x.2 = qR c d) (q1 : Q9 a b) (q2 : Q9 c d) (e : r = qR m n) (q : Q9 m n) (h1 : a * n ≤ m * b) (h2 : m * d ≤ c * n) (ht : Tb w) :
    Calls Tryz.prog 57 #[.agg #[S (x.1.1), S (x.1.2), S (x.2.1), S (x.2.2)], .agg #[S (r.1), S (r.2)]] w (Ret w fun v w' => v = .bool true) := by
 refine f_in Tryz.func57 rfl ?_;refine go ?_;refine bx (fun e8 fm bb => ?_);have ac := fm.2;refine bx (fun fo fk en => ?_);have bb := be fk.2 bb;have ac := xt ac fk.2;refine go ?_;refine l_op (k_loadA (cs := [S (x.1.1), S (x.1.2), S (x.2.1), S (x.2.2)]) (b := w.heap.size) (o := 0) U1032 rfl sz1032 rfl (Blk.cells bb (i := 0) rfl) ?_);refine cl en1056 (encValid_ok hx (ht.ext ac)) ?_;rintro fp fq fe rfl;have bb := be fe.2 bb;have en := be fe.2 en;have ac := xt ac fe.2;refine go ?_;refine cl en82 (cB (rValid_ok _ _ _ (ht.ext ac)) (okL e q)) ?_;rintro fw f6 fg rfl;have bb := be fg.2 bb;have en := be fg.2 en;have ac := xt ac fg.2;refine go ?_;refine cl en49 (qCmpL e1 e q1 q (ht.ext ac)) ?_;rintro f7 f8 fh rfl;have bb := be fh.2 bb;have en := be fh.2 en;have ac := xt ac fh.2;refine go ?_;refine l_want (s := 18) rfl (congrArg Value.bool (decide_eq_true (cmpI_nonpos.2 h1))) ?_;refine go ?_;refine l_want (s := 18) rfl (congrArg Value.bool (decide_eq_true (cmpI_nonpos.2 h1))) ?_;refine go ?_;refine l_want (s := 18) rfl (congrArg Value.bool (decide_eq_true (cmpI_nonpos.2 h1))) ?_;refine go ?_;refine l_want (s := 18) rfl (congrArg Value.bool (decide_eq_true (cmpI_nonpos.2 h1))) ?_;refine cl en49 (qCmpL e e2 q q2 (ht.ext ac)) ?_;rintro gc gd fj rfl;have ac := xt ac fj.2;refine l_want (s := 18) rfl (congrArg Value.bool (decide_eq_true (cmpI_nonpos.2 h1))) ?_;refine go ?_;refine l_op (k_pick (t := true) (v := .bool (decide ((cmpI (m * d) (c * n)) ≤ 0))) (congrArg Value.bool (decide_eq_true (cmpI_nonpos.2 h1))) rfl ?_)
 refine go ?_;exact f_ret1 (t := 4) (v := .bool (decide ((cmpI (m * d) (c * n)) ≤ 0))) rfl ac (congrArg Value.bool (decide_eq_true (cmpI_nonpos.2 h2))) rfl
theorem encWithin_ok {a b c d a' b' c' d' : Int} {x y : R × R} {w : World} (hx : IvR x) (hy : IvR y) (e1 : x.1 = qR a b) (e2 : x.2 = qR c d) (q1 : Q9 a b) (q2 : Q9 c d) (e3 : y.1 = qR a' b') (e4 : y.2 = qR c' d') (q3 : Q9 a' b') (q4 : Q9 c' d') (u1 : a' * b ≤ a * b') (v1 : a * d' ≤ c' * b) (u2 : a' * d ≤ c * b') (v2 : c * d' ≤ c' * d) (ht : Tb w) :
    Calls Tryz.prog 20 #[.agg #[S (x.1.1), S (x.1.2), S (x.2.1), S (x.2.2)], .agg #[S (y.1.1), S (y.1.2), S (y.2.1), S (y.2.2)]] w (Ret w fun v w' => v = .bool true) := by
 refine f_in Tryz.func20 rfl ?_;refine go ?_;refine bx (fun fh fk bb => ?_);have ac := fk.2;refine bx (fun fm fj en => ?_);have bb := be fj.2 bb;have ac := xt ac fj.2;refine go ?_;refine l_op (k_loadA (cs := [S (x.1.1), S (x.1.2), S (x.2.1), S (x.2.2)]) (b := w.heap.size) (o := 0) U1032 rfl sz1032 rfl (Blk.cells bb (i := 0) rfl) ?_);refine cl en1056 (encValid_ok hx (ht.ext ac)) ?_;rintro fo fp e8 rfl;have bb := be e8.2 bb;have en := be e8.2 en;have ac := xt ac e8.2;refine go ?_;refine l_op (k_loadA (cs := [S (y.1.1), S (y.1.2), S (y.2.1), S (y.2.2)]) (b := fh.heap.size) (o := 0) U1032 rfl sz1032 rfl (Blk.cells en (i := 0) rfl) ?_);refine go ?_;refine cl en1057 (encContains_ok (x := y) (r := x.1) hy e3 e4 q3 q4 e1 q1 u1 v1 (ht.ext ac)) ?_;rintro fq fw fe rfl;have bb := be fe.2 bb;have en := be fe.2 en;have ac := xt ac fe.2;refine go ?_;refine l_op (k_loadA (cs := [S (y.1.1), S (y.1.2), S (y.2.1), S (y.2.2)]) (b := fh.heap.size) (o := 0) U1032 rfl sz1032 rfl (Blk.cells en (i := 0) rfl) ?_);refine go ?_;refine cl en1057 (encContains_ok (x := y) (r := x.2) hy e3 e4 q3 q4 e2 q2 u2 v2 (ht.ext ac)) ?_;rintro f6 f7 fg rfl;have ac := xt ac fg.2;refine go ?_;exact f_ret1 (t := 4) (v := .bool (true)) rfl ac rfl rfl
theorem ofSub_ok {l m l' m' : List UInt8} {a b p n : Int} {w : World} (e1 : (l, m) = qR a b) (e2 : (l', m') = qR p n) (q1 : Q9 a b) (q2 : Q9 p n) (ht : Tb w) :
    Calls Tryz.prog 55 #[.func (.func 12) #[] #[], .agg #[S (l), S (m)], .agg #[S (l'), S (m')]] w (Ret w fun v w' => v = .agg #[S ((qR (a * n - p * b) (b * n)).1), S ((qR (a * n - p * b) (b * n)).2)]) := by
 refine f_in Tryz.func55 rfl ?_;refine go ?_;refine bx (fun fo fp bb => ?_);have ac := fp.2;refine bx (fun fk fm en => ?_);have bb := be fm.2 bb;have ac := xt ac fm.2;refine al inf36 (fun fw fj e8 => ?_);have bb := be fj.2 bb;have en := be fj.2 en;have ac := xt ac fj.2;refine go ?_;refine l_op (clV (f := 12) (lb := []) (vs := [.agg #[S (l), S (m)], .agg #[S (l'), S (m')]]) en220 rfl rfl (qSubL e1 e2 q1 q2 (ht.ext ac)) ?_);rintro f6 f7 fe rfl;have bb := be fe.2 bb;have en := be fe.2 en;have e8 := be fe.2 e8;have ac := xt ac fe.2;refine go ?_;refine cl en1089 (must_ok) ?_;rintro f8 gc fg rfl;have bb := be fg.2 bb;have en := be fg.2 en;have e8 := be fg.2 e8;have ac := xt ac fg.2;refine SA e8 (fun gd fh fq => ?_);have bb := pb fh bb;have en := pb fh en;have ac := plw fh ac;have gg := psz fh;refine go ?_;refine f_out (v := .agg #[S ((qR (a * n - p * b) (b * n)).1), S ((qR (a * n - p * b) (b * n)).2)]) (res1  rfl ?_) ac rfl;refine res_cellA (t := 6) (cs := [S ((qR (a * n - p * b) (b * n)).1), S ((qR (a * n - p * b) (b * n)).2)]) (b := fk.heap.size) (o := 0) U36 rfl sz36 ?_ ?_;exact rfl;exact Blk.cells fq (i := 0) rfl
theorem sub1_ok {b0 b1 b2 : Nat} {a b c d a' b' c' d' : Int} {x y : R × R} {w : World} (e1 : x.1 = qR a b) (e2 : x.2 = qR c d) (q1 : Q9 a b) (q2 : Q9 c d) (e3 : y.1 = qR a' b') (e4 : y.2 = qR c' d') (q3 : Q9 a' b') (q4 : Q9 c' d') (hb0 : Blk w b0 77 #[.func (.func 12) #[] #[]]) (hb1 : Blk w b1 32 #[S x.1.1, S x.1.2, S x.2.1, S x.2.2]) (hb2 : Blk w b2 32 #[S y.1.1, S y.1.2, S y.2.1, S y.2.2]) (ht : Tb w) :
    Calls Tryz.prog 54 #[.pointer (some ⟨b0, 0, none⟩), .pointer (some ⟨b1, 0, none⟩), .pointer (some ⟨b2, 0, none⟩)] w (Ret w fun v w' => v = .agg #[S ((qR (a * d' - c' * b) (b * d')).1), S ((qR (a * d' - c' * b) (b * d')).2), S ((qR (c * b' - a' * d) (d * b')).1), S ((qR (c * b' - a' * d) (d * b')).2)]) := by
 have zb0 := bt hb0;have zb1 := bt hb1;have zb2 := bt hb2;refine f_in Tryz.func54 rfl ?_;refine go ?_;refine al inf1032 (fun gh fj ac => ?_);have hb1 := be fj.2 hb1;have hb0 := be fj.2 hb0;have hb2 := be fj.2 hb2;have bb := fj.2;refine go ?_;refine c_an 11 ?_;refine sf ?_;refine sf_ae (V := .agg #[S ((qR (a * d' - c' * b) (b * d')).1), S ((qR (a * d' - c' * b) (b * d')).2)]) (fun g9 ia en ic => ?_) ?_;refine cl en1055 (ofSub_ok e1 e4 q1 q4 (ht.ext (xt bb en))) ?_;rintro ie ig e8 rfl;have gd := e8.2;refine go ?_;exact fs ⟨gd, rfl⟩;refine sf ?_;intro i6 i7 fe i8;have hb1 := be fe.2 hb1;have hb0 := be fe.2 hb0;have hb2 := be fe.2 hb2;have ac := be fe.2 ac;have bb := xt bb fe.2;refine cl en1055 (ofSub_ok e2 e3 q2 q3 (ht.ext bb)) ?_;rintro ja jb fg rfl;have hb1 := be fg.2 hb1;have hb0 := be fg.2 hb0;have hb2 := be fg.2 hb2;have ac := be fg.2 ac;have bb := xt bb fg.2;refine l_op (k_build (vs := [(0, .agg #[S ((qR (a * d' - c' * b) (b * d')).1), S ((qR (a * d' - c' * b) (b * d')).2)]), (1, .agg #[S ((qR (c * b' - a' * d) (d * b')).1), S ((qR (c * b' - a' * d) (d * b')).2)])]) (cells := #[S ((qR (a * d' - c' * b) (b * d')).1), S ((qR (a * d' - c' * b) (b * d')).2), S ((qR (c * b' - a' * d) (d * b')).1), S ((qR (c * b' - a' * d) (d * b')).2)]) (pl := [(0, 2), (2, 2)]) U1032 inf1032 (by kernel_rfl) rfl (by kernel_rfl) ?_);refine SA ac (fun jc fh gg => ?_);have hb1 := pb fh hb1
 have hb0 := pb fh hb0;have hb2 := pb fh hb2;have bb := plw fh bb;have jd := psz fh;refine go ?_;refine f_out (v := .agg #[S ((qR (a * d' - c' * b) (b * d')).1), S ((qR (a * d' - c' * b) (b * d')).2), S ((qR (c * b' - a' * d) (d * b')).1), S ((qR (c * b' - a' * d) (d * b')).2)]) (res1  rfl ?_) bb rfl;refine res_cellA (t := 3) (cs := [S ((qR (a * d' - c' * b) (b * d')).1), S ((qR (a * d' - c' * b) (b * d')).2), S ((qR (c * b' - a' * d) (d * b')).1), S ((qR (c * b' - a' * d) (d * b')).2)]) (b := w.heap.size) (o := 0) U1032 rfl sz1032 ?_ ?_;exact rfl;exact Blk.cells gg (i := 0) rfl
theorem encSub_ok {a b c d a' b' c' d' : Int} {x y : R × R} {w : World} (hx : IvR x) (hy : IvR y) (e1 : x.1 = qR a b) (e2 : x.2 = qR c d) (q1 : Q9 a b) (q2 : Q9 c d) (e3 : y.1 = qR a' b') (e4 : y.2 = qR c' d') (q3 : Q9 a' b') (q4 : Q9 c' d') (ht : Tb w) :
    Calls Tryz.prog 18 #[.agg #[S (x.1.1), S (x.1.2), S (x.2.1), S (x.2.2)], .agg #[S (y.1.1), S (y.1.2), S (y.2.1), S (y.2.2)]] w (Ret w fun v w' => v = .tuple #[.agg #[S ((qR (a * d' - c' * b) (b * d')).1), S ((qR (a * d' - c' * b) (b * d')).2), S ((qR (c * b' - a' * d) (d * b')).1), S ((qR (c * b' - a' * d) (d * b')).2)], .int .i64 0]) := by
 refine f_in Tryz.func18 rfl ?_;refine go ?_;refine bx (fun fo f7 bb => ?_);have ac := f7.2;refine bx (fun fw f6 en => ?_);have bb := be f6.2 bb;have ac := xt ac f6.2;refine al inf1032 (fun fp fq e8 => ?_);have bb := be fq.2 bb;have en := be fq.2 en;have ac := xt ac fq.2;refine go ?_;refine al inf1077 (fun gh fm f8 => ?_);have bb := be fm.2 bb;have en := be fm.2 en;have e8 := be fm.2 e8;have ac := xt ac fm.2;refine SO f8 (fun gc fh fe => ?_);have bb := pb fh bb;have en := pb fh en;have e8 := pb fh e8;have ac := plw fh ac;have gi := psz fh;refine go ?_;refine l_op (k_makeFunc (vf := []) (vc := [.pointer (some ⟨fp.heap.size, 0, none⟩), .pointer (some ⟨w.heap.size, 0, none⟩), .pointer (some ⟨fo.heap.size, 0, none⟩)]) rfl rfl ?_);refine l_op (k_loadA (cs := [S (x.1.1), S (x.1.2), S (x.2.1), S (x.2.2)]) (b := w.heap.size) (o := 0) U1032 rfl sz1032 rfl (Blk.cells bb (i := 0) rfl) ?_);refine l_op (k_loadA (cs := [S (y.1.1), S (y.1.2), S (y.2.1), S (y.2.2)]) (b := fo.heap.size) (o := 0) U1032 rfl sz1032 rfl (Blk.cells en (i := 0) rfl) ?_);refine BS2 (fun gj fg gk gd => ?_);have bb := be fg bb;have en := be fg en;have e8 := be fg e8;have fe := be fg fe;have ac := xt ac fg;have gl := bz fg;refine clb en1053 (hc := computeI_ok (l := [x, y]) (x := (qR (a * d' - c' * b) (b * d'), qR (c * b' - a' * d) (d * b'))) en1054 (Rw.of_own gd) rfl (by simp) (fun z hz => by rcases List.mem_cons.1 hz with h | h; exact h ▸ hx; rw [List.mem_singleton.1 h]; exact hy) (fun W e => sub1_ok e1 e2 q1 q2 e3 e4 q3 q4 (fe.ext e) (bb.ext e) (en.ext e) ((ht.ext ac).ext e)) (ht.ext ac)) (hk := ?_)
 rintro gm gp fj rfl;have bb := be fj.2 bb;have en := be fj.2 en;have e8 := be fj.2 e8;have fe := be fj.2 fe;have ac := xt ac fj.2;refine go ?_;refine SA e8 (fun gq fk gg => ?_);have bb := pb fk bb;have en := pb fk en;have fe := pb fk fe;have ac := plw fk ac;have gu := psz fk;refine go ?_;refine f_out (v := .tuple #[.agg #[S ((qR (a * d' - c' * b) (b * d')).1), S ((qR (a * d' - c' * b) (b * d')).2), S ((qR (c * b' - a' * d) (d * b')).1), S ((qR (c * b' - a' * d) (d * b')).2)], .int .i64 (0)]) (res2 (r1 := .cell 4 32) (r2 := .tmp 5) rfl ?_ ?_) ac rfl;refine res_cellA (t := 4) (cs := [S ((qR (a * d' - c' * b) (b * d')).1), S ((qR (a * d' - c' * b) (b * d')).2), S ((qR (c * b' - a' * d) (d * b')).1), S ((qR (c * b' - a' * d) (d * b')).2)]) (b := fw.heap.size) (o := 0) U1032 rfl sz1032 ?_ ?_;exact rfl;exact Blk.cells gg (i := 0) rfl;exact res_tmp (t := 5) (by exact rfl) _
end Go.Proofs.YteojhdahhaodoaaGreatDoor
