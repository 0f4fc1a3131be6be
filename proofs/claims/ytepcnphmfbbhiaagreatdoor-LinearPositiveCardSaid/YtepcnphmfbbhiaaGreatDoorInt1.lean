/- Part of the proof that all functions of the layer agree with the reference implementation. -/
import Derived.Test.YtepcnphmfbbhiaaGreatDoorBase
import Derived.Test.YtepcnphmfbbhiaaGreatDoorDecToDec6
import Derived.Test.YtepcnphmfbbhiaaGreatDoorEngH
set_option linter.all false
set_option linter.all false
namespace Go.Proofs.YtepcnphmfbbhiaaGreatDoor
set_option maxRecDepth 100000
open Go Go.Eng Go.RowKit
attribute [local irreducible] wpListIn Code.wpIn Oper.wpIn Exit.then Exit.inBlock Exit.noGoto
set_option maxHeartbeats 40000000
def ints (l : List Nat) : List Value := l.map fun n : Nat => Value.int .i64 n
theorem ints_get {xs : List Nat} {i : Nat} (h : i < xs.length) : (ints xs)[i]? = some (.int .i64 ((xs[i] : Nat) : Int)) := by simp [ints, h]
theorem ints_length (xs : List Nat) : (ints xs).length = xs.length := by simp [ints]
theorem ints_one {xs : List Nat} : ∀ u ∈ ints xs, u.oneCell' = true := by
  intro u hu
  obtain ⟨n, _, rfl⟩ := List.mem_map.1 hu
  rfl
theorem ints_append (a b : List Nat) : ints (a ++ b) = ints a ++ ints b := by simp [ints]
theorem getD_ge {xs : List Nat} {i : Nat} (h : xs.length ≤ i) : xs.getD i 0 = 0 := by simp [List.getD, List.getElem?_eq_none h]
theorem ints_getD {xs : List Nat} {i : Nat} (h : i < xs.length) : (ints xs)[i]? = some (.int .i64 ((xs.getD i 0 : Nat) : Int)) := by simp [ints, h]
theorem take_last {xs : List Nat} {m : Nat} (h0 : 0 < m) (h : m ≤ xs.length) : xs.take m = xs.take (m - 1) ++ [xs.getD (m - 1) 0] := by
  obtain ⟨k, rfl⟩ : ∃ k, m = k + 1 := ⟨m - 1, by omega⟩
  rw [List.take_succ_eq_append_getElem om]
  simp [show k < xs.length by omega]
theorem trimL_snoc0 : ∀ l : List Nat, trimL (l ++ [0]) = trimL l
  | [] => by simp [trimL]
  | d :: l => by simp only [List.cons_append, trimL, trimL_snoc0 l]
theorem trimL_snoc : ∀ (l : List Nat) (d : Nat), d ≠ 0 → trimL (l ++ [d]) = l ++ [d]
  | [], d, h => by simp [trimL, h]
  | e :: l, d, h => by
    have ih := trimL_snoc l d h
    simp only [List.cons_append, trimL, ih]
    rw [if_neg (by simp)]
theorem trim_step {xs : List Nat} {m n : Nat} (h : 0 < m ∧ m ≤ n ∧ xs.length = n) (hz : xs.getD (m - 1) 0 = 0) : trimL (xs.take m) = trimL (xs.take (m - 1)) := by
  rw [take_last h.1 om, hz, trimL_snoc0]
theorem trim_done {xs : List Nat} {m n : Nat} (h : m ≤ n ∧ xs.length = n) (hz : m = 0 ∨ 0 < m ∧ xs.getD (m - 1) 0 ≠ 0) : trimL (xs.take m) = xs.take m := by
  rcases hz with rfl | ⟨h0, hz⟩
  · simp [trimL]
  · rw [take_last h0 om, trimL_snoc _ _ hz]
structure Num (w : World) (lo : Nat) (A : Option Addr) (n c a : Nat) : Prop where
  row : Rw w lo A (ints (toB 10000 a))
  len : (toB 10000 a).length = n
  cap : n ≤ c
section
variable {w w0 w' : World} {lo : Nat} {A : Option Addr} {n c a : Nat}
theorem Num.ext (k : Ext w w') (h : Num w lo A n c a) : Num w' lo A n c a := ⟨h.row.ext k, h.len, h.cap⟩
theorem Num.put {b : Nat} (k : Put w w' b) (hb : b < lo) (h : Num w lo A n c a) : Num w' lo A n c a := ⟨h.row.put k hb, h.len, h.cap⟩
theorem Num.gr {row : Option Nat} (k : w.grownBy w' row) (hne : ∀ ad, A = some ad → some ad.block ≠ row) (h : Num w lo A n c a) : Num w' lo A n c a := ⟨h.row.gr k hne, h.len, h.cap⟩
theorem Num.mono {lo' : Nat} (hl : lo' ≤ lo) (h : Num w lo A n c a) : Num w lo' A n c a := ⟨h.row.mono hl, h.len, h.cap⟩
theorem Num.lt (h : Num w lo A n c a) : ∀ x ∈ toB 10000 a, x < 10000 := toB_lt 10000 om a
theorem Num.val (h : Num w lo A n c a) : ofB 10000 (toB 10000 a) = a := ofB_toB 10000 om a
end
theorem toNats_ints {l : List Int} (h : ∀ x ∈ l, 0 ≤ x ∧ x < 10000) : l.map (Value.int .i64) = ints (toNats l) := by
  conv => lhs; rw [← toNats_cast l (fun x hx => (h x hx).1)]
  simp [ints]
theorem num_of {w : World} {lo : Nat} {A : Option Addr} {m c a : Nat} {l : List Int} (hd : ∀ x ∈ l, 0 ≤ x ∧ x < 10000) (hv : ofB 10000 (toNats l) = a) (hr : Rw w lo A (ints (toNats l))) (hm : trimL (toNats l) = (toNats l).take m) (hml : m ≤ (toNats l).length) (hmc : m ≤ c) : Num w lo A m c a := by
  have h1 : toB 10000 a = (toNats l).take m := by
    rw [← hm, ← hv]
    exact (trimL_eq 10000 om _ (toNats_lt l hd)).symm
  refine ⟨?_, ?_, hmc⟩
  · rw [h1]
    have : ints ((toNats l).take m) = (ints (toNats l)).take m := by simp [ints]
    rw [this]
    exact hr.take m
  · rw [h1]; simp; omega
theorem toNats_length (l : List Int) : (toNats l).length = l.length := by simp [toNats]
theorem isNaN_ok (x : Int) (w : World) :
    Calls Tryz.prog 151 #[.int .i64 (x)] w (Ret w fun v w' => v = .bool false) := by
 refine f_in Tryz.func151 rfl ?_;refine go ?_;exact f_ret1 (t := 2) (v := .bool (false)) rfl (Ext.refl _) rfl (by show Value.bool (!decide (x = x)) = _; simp)
theorem cmp_lt (x y : Int) (h : x < y) (w : World) :
    Calls Tryz.prog 134 #[.int .i64 (x), .int .i64 (y)] w (Ret w fun v w' => v = .int .i64 (-1)) := by
 refine f_in Tryz.func134 rfl ?_;refine go ?_;refine cl en146 (isNaN_ok _ _) ?_;rintro v3 w1 k2 rfl;have E4 := k2.2;refine go ?_;refine cl en146 (isNaN_ok _ _) ?_;rintro v7 w5 k6 rfl;have E4 := xt E4 k6.2;refine go ?_;exact f_ret1 (t := 4) (v := .int .i64 ((-1))) rfl E4 rfl rfl
theorem cmp_gt (x y : Int) (h : y < x) (w : World) :
    Calls Tryz.prog 134 #[.int .i64 (x), .int .i64 (y)] w (Ret w fun v w' => v = .int .i64 1) := by
 refine f_in Tryz.func134 rfl ?_;refine go ?_;refine cl en146 (isNaN_ok _ _) ?_;rintro v10 w8 k9 rfl;have E11 := k9.2;refine go ?_;refine cl en146 (isNaN_ok _ _) ?_;rintro v14 w12 k13 rfl;have E11 := xt E11 k13.2;refine go ?_;exact f_ret1 (t := 4) (v := .int .i64 (1)) rfl E11 rfl rfl
theorem cmp_eq (x y : Int) (h : x = y) (w : World) :
    Calls Tryz.prog 134 #[.int .i64 (x), .int .i64 (y)] w (Ret w fun v w' => v = .int .i64 0) := by
 refine f_in Tryz.func134 rfl ?_;refine go ?_;refine cl en146 (isNaN_ok _ _) ?_;rintro v17 w15 k16 rfl;have E18 := k16.2;refine go ?_;refine cl en146 (isNaN_ok _ _) ?_;rintro v21 w19 k20 rfl;have E18 := xt E18 k20.2;refine go ?_;exact f_ret1 (t := 4) (v := .int .i64 (0)) rfl E18 rfl rfl
theorem at_ok {A : Option Addr} {n c i lo : Nat} {xs : List Nat} {w : World} (hr : Rw w lo A (ints xs)) (hn : xs.length = n) :
    Calls Tryz.prog 132 #[.slice (A) (n) (c), .int .i64 i] w (Ret w fun v w' => v = .int .i64 ((xs.getD i 0 : Nat) : Int)) := by
 by_cases hi : i < n;have hi2 : i < xs.length := by omega
 refine f_in Tryz.func132 rfl ?_;refine go ?_;obtain ⟨b, o, hA, hc⟩ := hr.cells i _ (ints_get hi2);refine l_op (k_indexAddr (i := i) (oo := o + i) U123 sz3 rfl hA rfl hi om ?_);refine l_op (k_load (v := .int .i64 ((xs[i]'hi2 : Nat) : Int)) U3 rfl rfl hc ?_);refine go ?_;exact f_ret1 (t := 4) (v := .int .i64 (((xs[i]'hi2 : Nat) : Int))) rfl (Ext.refl _) (by simp [hi2]) rfl;refine f_in Tryz.func132 rfl ?_;refine go ?_;exact f_ret1 (t := 4) (v := .int .i64 (0)) rfl (Ext.refl _) (by rw [getD_ge om]; rfl) rfl
theorem plus_cl {A1 A2 : Option Addr} {n1 c1 n2 c2 i lo1 lo2 B1 B2 : Nat} {xs ys : List Nat} {w : World} (h1 : Rw w lo1 A1 (ints xs)) (hn1 : xs.length = n1) (h2 : Rw w lo2 A2 (ints ys)) (hn2 : ys.length = n2) (k1 : Blk w B1 115 #[.slice A1 n1 c1]) (k2 : Blk w B2 115 #[.slice A2 n2 c2]) (hx : xs.getD i 0 ≤ 1000000000) (hy : ys.getD i 0 ≤ 1000000000) :
    Calls Tryz.prog 131 #[.int .i64 i, .pointer (some ⟨B1, 0, none⟩), .pointer (some ⟨B2, 0, none⟩)] w (Ret w fun v w' => v = .int .i64 (((xs.getD i 0 : Nat) : Int) + ((ys.getD i 0 : Nat) : Int))) := by
 refine f_in Tryz.func131 rfl ?_;refine go ?_;refine c_an 8 ?_;refine sf ?_;refine sf_ae (V := .int .i64 (((xs.getD i 0 : Nat) : Int))) (fun e30 w31 hR32 hp33 => ?_) ?_;have h1 := h1.ext hR32;refine cl en129 (at_ok h1 hn1) ?_;rintro v36 w34 k35 rfl;have E37 := k35.2;refine go ?_;exact fs ⟨E37, rfl⟩;refine sf ?_;refine sf_ae (V := .int .i64 (((ys.getD i 0 : Nat) : Int))) (fun e46 w47 hR48 hp49 => ?_) ?_;have h2 := h2.ext hR48;refine cl en129 (at_ok h2 hn2) ?_;rintro v52 w50 k51 rfl;have E53 := k51.2;refine go ?_;exact fs ⟨E53, rfl⟩;refine sf_ap (fun e54 w55 hR56 hp57 => by refine adi ?_;refine go ?_;exact finp) ?_;refine sf ?_;intro e62 w63 hR64 hp65;have E66 := hR64.2;refine go ?_;exact f_ret1 (t := 4) (v := .int .i64 (((xs.getD i 0 : Nat) : Int) + ((ys.getD i 0 : Nat) : Int))) rfl E66 rfl rfl
theorem minus_cl {A1 A2 : Option Addr} {n1 c1 n2 c2 i lo1 lo2 B1 B2 : Nat} {xs ys : List Nat} {w : World} (h1 : Rw w lo1 A1 (ints xs)) (hn1 : xs.length = n1) (h2 : Rw w lo2 A2 (ints ys)) (hn2 : ys.length = n2) (k1 : Blk w B1 115 #[.slice A1 n1 c1]) (k2 : Blk w B2 115 #[.slice A2 n2 c2]) (hx : xs.getD i 0 ≤ 1000000000) (hy : ys.getD i 0 ≤ 1000000000) :
    Calls Tryz.prog 133 #[.int .i64 i, .pointer (some ⟨B1, 0, none⟩), .pointer (some ⟨B2, 0, none⟩)] w (Ret w fun v w' => v = .int .i64 (((xs.getD i 0 : Nat) : Int) - ((ys.getD i 0 : Nat) : Int))) := by
 refine f_in Tryz.func133 rfl ?_;refine go ?_;refine c_an 8 ?_;refine sf ?_;refine sf_ae (V := .int .i64 (((xs.getD i 0 : Nat) : Int))) (fun e75 w76 hR77 hp78 => ?_) ?_;have h1 := h1.ext hR77;refine cl en129 (at_ok h1 hn1) ?_;rintro v81 w79 k80 rfl;have E82 := k80.2;refine go ?_;exact fs ⟨E82, rfl⟩;refine sf ?_;refine sf_ae (V := .int .i64 (((ys.getD i 0 : Nat) : Int))) (fun e91 w92 hR93 hp94 => ?_) ?_;have h2 := h2.ext hR93;refine cl en129 (at_ok h2 hn2) ?_;rintro v97 w95 k96 rfl;have E98 := k96.2;refine go ?_;exact fs ⟨E98, rfl⟩;refine sf_ap (fun e99 fg fc fh => by refine sui ?_;refine go ?_;exact finp) ?_;refine sf ?_;intro fl fm e8 fo;have fe := e8.2;refine go ?_;exact f_ret1 (t := 4) (v := .int .i64 (((xs.getD i 0 : Nat) : Int) - ((ys.getD i 0 : Nat) : Int))) rfl fe rfl rfl
theorem trimmed_ok {A : Option Addr} {n c lo : Nat} {xs : List Nat} {w : World} (hr : Rw w lo A (ints xs)) (hn : xs.length = n) (hc : n ≤ c) (hb : n ≤ 1000000) :
    Calls Tryz.prog 126 #[.slice (A) (n) (c)] w (Ret w fun v w' => ∃ m, v = .slice A m c ∧ trimL xs = xs.take m ∧ m ≤ n) := by
 refine f_in Tryz.func126 rfl ?_;refine go ?_;have fd := Ext.refl w;refine c_lp [(0, 0), (3, 19)] (fun kk e W => ∃ m : Nat, (m = kk) ∧ (e 0 = .slice (A) (m) (c)) ∧ (m ≤ n) ∧ (trimL xs = trimL (xs.take m)) ∧ (Ext w W)) ((n)) ⟨n, rfl, rfl, (Nat.le_refl _), (by rw [List.take_of_length_le om]), fd⟩ ?_;rintro fe fg fh ⟨m, rfl, e8, q1, q2, fc⟩;have fi := bz fc;by_cases hm : 0 < m;by_cases hz : xs.getD (m - 1) 0 = 0;obtain ⟨b, o, hA, hc⟩ := (hr.ext fc).cells (m - 1) _ (ints_getD (xs := xs) om);refine go ?_;refine l_op (k_sub (a := (m : Int)) (b := 1) (c := ((m - 1 : Nat) : Int)) rfl rfl (by unfold In64; omega) om ?_);refine go ?_;refine l_op (k_indexAddr (i := m - 1) (oo := o + (m - 1)) U123 sz3 rfl hA rfl om om ?_);refine go ?_;refine l_op (k_load (v := .int .i64 ((xs.getD (m - 1) 0 : Nat) : Int)) U3 rfl rfl hc ?_);refine go ?_;refine l_op (k_sub (a := (m : Int)) (b := 1) (c := ((m - 1 : Nat) : Int)) rfl rfl (by unfold In64; omega) om ?_);refine l_op (k_cut (j := m - 1) U123 sz3 rfl rfl om ?_);refine go ?_;exact lend ⟨m - 1, rfl, rfl, om, (q2.trans (trim_step (n := n) om hz)), fc⟩;obtain ⟨b, o, hA, hc⟩ := (hr.ext fc).cells (m - 1) _ (ints_getD (xs := xs) om);refine go ?_;refine l_op (k_sub (a := (m : Int)) (b := 1) (c := ((m - 1 : Nat) : Int)) rfl rfl (by unfold In64; omega) om ?_);refine go ?_;refine l_op (k_indexAddr (i := m - 1) (oo := o + (m - 1)) U123 sz3 rfl hA rfl om om ?_)
 refine go ?_;refine l_op (k_load (v := .int .i64 ((xs.getD (m - 1) 0 : Nat) : Int)) U3 rfl rfl hc ?_);refine go ?_;exact f_ret1 (t := 2) (v := .slice (A) (m) (c)) rfl fc ⟨m, rfl, q2.trans (trim_done (n := n) om (by first | exact Or.inl om | exact Or.inr ⟨by omega, by omega⟩)), by omega⟩ rfl
 refine go ?_;exact f_ret1 (t := 2) (v := .slice (A) (m) (c)) rfl fc ⟨m, rfl, q2.trans (trim_done (n := n) om (by first | exact Or.inl om | exact Or.inr ⟨by omega, by omega⟩)), by omega⟩ rfl
theorem fold_ok {g n : Nat} {c0 : Int} {lb : List Value} {d : Nat → Int} {w : World} (heg : Enters Tryz.prog g) (hd : ∀ (i : Nat) (W : World), i ≤ n → Ext w W → Calls Tryz.prog g ([Value.int .i64 i] ++ lb).toArray W (Ret W fun v _ => v = .int .i64 (d i))) (hn : n ≤ 1000000) (hr : ∀ i ≤ n, -1000000000000 ≤ d i ∧ d i ≤ 1000000000000) (hc : ∀ k ≤ n, -1000000000 ≤ (foldSt d c0 k).1 ∧ (foldSt d c0 k).1 ≤ 1000000000) (hcn : 0 ≤ (foldSt d c0 n).1 ∧ (foldSt d c0 n).1 < 10000) (hdn : d n = 0) :
    Calls Tryz.prog 130 #[.int .i64 n, .int .i64 (c0), .func (.func g) #[] lb.toArray] w (Ret w fun v w' => ∃ k, n ≤ k ∧ k ≤ n + 1 ∧ (foldSt d c0 k).1 = 0 ∧ w'.ownsRow w.heap.size 3 1 v k ((foldSt d c0 k).2.map (Value.int .i64))) := by
 refine f_in Tryz.func130 rfl ?_;refine go ?_;refine l_op (k_add (a := (n : Int)) (b := 1) (c := ((n + 1 : Nat) : Int)) rfl rfl (by unfold In64; omega) om ?_);refine l_op (k_make0 (m := n + 1) U123 inf3 rfl rfl om (by simp only [maxLen]; omega) (fun gq fp ho => ?_));have f8 := fp;have gu := bz fp;refine go ?_;refine c_lp [(1, 1), (7, 9), (13, 40)] (fun kk e W => ∃ k : Nat, ∃ vv : Value, (n + 1 - k = kk) ∧ (e 1 = .int .i64 ((foldSt d c0 k).1)) ∧ (e 7 = vv) ∧ (e 8 = .int .i64 k) ∧ (k ≤ n + 1) ∧ (k = n + 1 → (foldSt d c0 k).1 = 0) ∧ (Ext w W) ∧ (W.ownsRow w.heap.size 3 1 vv k ((foldSt d c0 k).2.map (Value.int .i64)))) (n + 1 - (0)) ⟨0, _, rfl, rfl, rfl, rfl, om, om, f8, ho⟩ ?_;rintro gv gw gy ⟨k, vv, rfl, fd, fe, fc, q1, q2, e8, ho⟩;have gz := bz e8;by_cases hkn : k < n;by_cases hs : d k + (foldSt d c0 k).1 < 0;have hbd := hr k om;have hbc := hc k om;have hst := foldSt_neg om;refine go ?_;refine l_op (clV (vs := [.int .i64 k]) (lb := lb) heg rfl rfl (hd k _ om e8) ?_);rintro g6 f9 fg rfl;have fg := fg.2;have ho := own_ext fg ho;have e8 := xt e8 fg;have g7 := bz fg;refine go ?_;refine adi ?_;refine go ?_;refine adi ?_;refine go ?_;refine l_op (k_move (v := vv) fe ?_);refine go ?_;refine BS (fun g8 fh g9 gc => ?_);have ho := own_ext fh ho;have e8 := xt e8 fh;have ia := bz fh;refine AP ho (Rw.of_own gc) (fun fq ib gd fu ic => ?_)
 have e8 := low_gr e8 fu (bz e8) (fun g hgg => by have := (ho.lt g hgg).1; omega);have ie := fu.size;refine l_op (k_assign (v := fq) rfl ?_);refine go ?_;refine l_op (k_add (a := (k : Int)) (b := 1) (c := ((k + 1 : Nat) : Int)) rfl rfl (by unfold In64; omega) om ?_);refine go ?_;exact lend ⟨k + 1, fq, rfl, (by rw [hst]; rfl), rfl, rfl, om, (by intro hk; first | omega | (rw [hst])), e8, (by rw [hst]; simpa using gd)⟩;by_cases hs2 : 10000 ≤ d k + (foldSt d c0 k).1;have hbd := hr k om;have hbc := hc k om;have hst := foldSt_big om om;refine go ?_;refine l_op (clV (vs := [.int .i64 k]) (lb := lb) heg rfl rfl (hd k _ om e8) ?_);rintro ig gg fi rfl;have fi := fi.2;have ho := own_ext fi ho;have e8 := xt e8 fi;have ii := bz fi;refine go ?_;refine adi ?_;refine go ?_;refine l_op (k_quo (a := (d k) + ((foldSt d c0 k).1)) (b := 10000) (c := ((d k) + ((foldSt d c0 k).1)) / 10000) rfl rfl om om (by unfold In64; omega) rfl ?_);refine go ?_;refine l_op (k_rem (a := (d k) + ((foldSt d c0 k).1)) (b := 10000) (c := ((d k) + ((foldSt d c0 k).1)) % 10000) rfl rfl om om rfl ?_);refine go ?_;refine l_op (k_move (v := vv) fe ?_);refine go ?_;refine BS (fun ij fj ik gh => ?_);have ho := own_ext fj ho;have e8 := xt e8 fj;have il := bz fj;refine AP ho (Rw.of_own gh) (fun fv im gi fw io => ?_);have e8 := low_gr e8 fw (bz e8) (fun g hgg => by have := (ho.lt g hgg).1; omega)
 have ip := fw.size;refine l_op (k_assign (v := fv) rfl ?_);refine go ?_;refine l_op (k_add (a := (k : Int)) (b := 1) (c := ((k + 1 : Nat) : Int)) rfl rfl (by unfold In64; omega) om ?_);refine go ?_;exact lend ⟨k + 1, fv, rfl, (by rw [hst]; rfl), rfl, rfl, om, (by intro hk; first | omega | (rw [hst])), e8, (by rw [hst]; simpa using gi)⟩;have hbd := hr k om;have hbc := hc k om;have hst := foldSt_mid om om;refine go ?_;refine l_op (clV (vs := [.int .i64 k]) (lb := lb) heg rfl rfl (hd k _ om e8) ?_);rintro iq gj fk rfl;have fk := fk.2;have ho := own_ext fk ho;have e8 := xt e8 fk;have ir := bz fk;refine go ?_;refine adi ?_;refine go ?_;refine l_op (k_move (v := vv) fe ?_);refine go ?_;refine BS (fun iu fl iv gk => ?_);have ho := own_ext fl ho;have e8 := xt e8 fl;have iw := bz fl;refine AP ho (Rw.of_own gk) (fun fx ix gl fy iy => ?_);have e8 := low_gr e8 fy (bz e8) (fun g hgg => by have := (ho.lt g hgg).1; omega);have iz := fy.size;refine l_op (k_assign (v := fx) rfl ?_);refine go ?_;refine l_op (k_add (a := (k : Int)) (b := 1) (c := ((k + 1 : Nat) : Int)) rfl rfl (by unfold In64; omega) om ?_);refine go ?_;exact lend ⟨k + 1, fx, rfl, (by rw [hst]; rfl), rfl, rfl, om, (by intro hk; first | omega | (rw [hst])), e8, (by rw [hst]; simpa using gl)⟩;by_cases hcz : (foldSt d c0 k).1 = 0;refine go ?_;refine l_op (k_move (v := vv) fe ?_);refine l_op (k_assign (v := vv) rfl ?_)
 refine go ?_;exact f_ret1 (t := 6) (v := vv) rfl e8 ⟨k, by omega, by omega, hcz, ho⟩ rfl
 have hkn2 : n = k := by omega
 have hdk := hdn; rw [hkn2] at hdk;have hck := hcn; rw [hkn2] at hck;have hbig : ¬ 10000 ≤ d k + (foldSt d c0 k).1 := by omega
 have hneg : ¬ d k + (foldSt d c0 k).1 < 0 := by omega
 have hbd := hr k om;have hbc := hc k om;have hst := foldSt_mid om om;refine go ?_;refine l_op (clV (vs := [.int .i64 k]) (lb := lb) heg rfl rfl (hd k _ om e8) ?_);rintro i6 gm fm rfl;have fm := fm.2;have ho := own_ext fm ho;have e8 := xt e8 fm;have i7 := bz fm;refine go ?_;refine adi ?_;refine go ?_;refine l_op (k_move (v := vv) fe ?_);refine go ?_;refine BS (fun i8 fo ja gn => ?_);have ho := own_ext fo ho;have e8 := xt e8 fo;have jb := bz fo;refine AP ho (Rw.of_own gn) (fun f6 jc gp f7 jd => ?_);have e8 := low_gr e8 f7 (bz e8) (fun g hgg => by have := (ho.lt g hgg).1; omega);have je := f7.size;refine l_op (k_assign (v := f6) rfl ?_);refine go ?_;refine l_op (k_add (a := (k : Int)) (b := 1) (c := ((k + 1 : Nat) : Int)) rfl rfl (by unfold In64; omega) om ?_);refine go ?_;exact lend ⟨k + 1, f6, rfl, (by rw [hst]; rfl), rfl, rfl, om, (by intro hk; first | omega | (rw [hst])), e8, (by rw [hst]; simpa using gp)⟩
end Go.Proofs.YtepcnphmfbbhiaaGreatDoor
