/- Part of the proof that all functions of the layer agree with the reference implementation. -/
import Derived.Test.YtepcnphmfbbhiaaGreatDoorRat1ToRat3
import Derived.Test.YtepcnphmfbbhiaaGreatDoorEngH
set_option linter.all false
set_option linter.all false
namespace Go.Proofs.YtepcnphmfbbhiaaGreatDoor
open Go Go.Eng Go.RowKit
attribute [local irreducible] wpListIn Code.wpIn Oper.wpIn Exit.then Exit.inBlock Exit.noGoto
set_option maxHeartbeats 40000000
theorem c45 {c : UInt8} : (((c.toNat : Nat) : Int) = 45) ↔ c = 45 := by
  constructor
  · intro h; exact UInt8.toNat_inj.1 (by have : (45 : UInt8).toNat = 45 := rfl; omega)
  · intro h; subst h; rfl
theorem c48 {c : UInt8} : (((c.toNat : Nat) : Int) = 48) ↔ c = 48 := by
  constructor
  · intro h; exact UInt8.toNat_inj.1 (by have : (48 : UInt8).toNat = 48 := rfl; omega)
  · intro h; subst h; rfl
theorem head_min {l : List UInt8} {c : UInt8} (hc : l[0]? = some c) (h : ((c.toNat : Nat) : Int) = 45) : neg l = true ∧ body l = l.drop 1 := by
  rw [c45] at h; subst h
  cases l with
  | nil => simp at hc
  | cons a t => simp at hc; subst hc; exact ⟨rfl, rfl⟩
theorem head_no {l : List UInt8} {c : UInt8} (hc : l[0]? = some c) (h : ¬ ((c.toNat : Nat) : Int) = 45) : neg l = false ∧ body l = l := by
  have hne : l.head? ≠ some 45 := by rw [List.head?_eq_getElem?, hc]; intro e; cases e; exact h rfl
  exact ⟨neg_of hne, body_of hne⟩
theorem head_nil {l : List UInt8} (h : ¬ (0 : Int) < ((l.length : Nat) : Int)) : neg l = false ∧ body l = l := by
  have : l = [] := List.length_eq_zero_iff.1 om
  subst this; exact ⟨rfl, rfl⟩
section
variable {l D : List UInt8} {c : UInt8}
theorem vf0 (hb : neg l = true ∧ body l = D) (h : D = [48]) : Value.bool false = .bool (isInt l) := by
  unfold isInt; rw [hb.1, hb.2, h]; rfl
theorem vf1 {q : Bool} (hb : neg l = q ∧ body l = D) (h : ¬ (0 : Int) < ((D.length : Nat) : Int)) : Value.bool false = .bool (isInt l) := by
  have : D = [] := List.length_eq_zero_iff.1 om
  unfold isInt isNum; rw [hb.2, this]; rfl
theorem vf2 {q : Bool} (hb : neg l = q ∧ body l = D) (h : ¬ ((D.length : Nat) : Int) ≤ 200) : Value.bool false = .bool (isInt l) := by
  have : ¬ D.length ≤ 200 := by omega
  unfold isInt isNum; rw [hb.2]; simp [this]
theorem vf5 {q : Bool} {i : Nat} (hb : neg l = q ∧ body l = D) (hc : D[i]? = some c) (h : isDig c = false) : Value.bool false = .bool (isInt l) := by
  have : D.all isDig = false := by
    rw [List.all_eq_false]
    exact ⟨c, List.mem_iff_getElem?.2 ⟨i, hc⟩, by simp [h]⟩
  unfold isInt isNum; rw [hb.2, this]; simp
theorem dig_lo (h : ((c.toNat : Nat) : Int) < 48) : isDig c = false := by unfold isDig; simp; omega
theorem dig_hi (h : (57 : Int) < ((c.toNat : Nat) : Int)) : isDig c = false := by unfold isDig; simp; omega
theorem dig_ok (h1 : ¬ ((c.toNat : Nat) : Int) < 48) (h2 : ¬ (57 : Int) < ((c.toNat : Nat) : Int)) : isDig c = true := by unfold isDig; simp; omega
theorem vf3 (hb : neg l = false ∧ body l = D) (h : D = [48]) : Value.bool true = .bool (isInt l) := by
  unfold isInt; rw [hb.1, hb.2, h]; rfl
theorem vf4 {q : Bool} (hb : neg l = q ∧ body l = D) (ha : D.all isDig = true) (h0 : (0 : Int) < ((D.length : Nat) : Int)) (h1 : ((D.length : Nat) : Int) ≤ 200) (h : ¬ D = [48]) (hc : D[0]? = some c) : Value.bool (!decide (((c.toNat : Nat) : Int) = 48)) = .bool (isInt l) := by
  have e1 : D.isEmpty = false := by cases D <;> simp_all
  have e2 : D.length ≤ 200 := by omega
  have e3 : D.head? = some c := by rw [List.head?_eq_getElem?]; exact hc
  congr 1
  unfold isInt isNum
  rw [hb.2]
  simp only [e1, e2, ha, h, e3, c48, Bool.not_false, decide_true, decide_false, Bool.and_self, Bool.true_and, Bool.false_or, Bool.and_false, Bool.not_false, Bool.and_true, ne_eq, Option.some.injEq, decide_not]
theorem all_take_step {i : Nat} (ha : (D.take i).all isDig = true) (hc : D[i]? = some c) (h : isDig c = true) : (D.take (i + 1)).all isDig = true := by
  have hi : i < D.length := (List.getElem?_eq_some_iff.1 hc).1
  have he := (List.getElem?_eq_some_iff.1 hc).2
  rw [List.take_succ_eq_append_getElem hi, List.all_append, ha, he]
  simp [h]
end
structure Dg (w : World) (lo : Nat) (A : Option Addr) (n c a : Nat) : Prop where
  row : Rw w lo A (ints (toB 10 a))
  len : (toB 10 a).length = n
  cap : n ≤ c
section
variable {w w0 w' : World} {lo : Nat} {A : Option Addr} {n c a : Nat}
theorem Dg.ext (k : Ext w w') (h : Dg w lo A n c a) : Dg w' lo A n c a := ⟨h.row.ext k, h.len, h.cap⟩
theorem Dg.putU {b : Nat} (k : Put w w' b) (hne : ∀ ad, A = some ad → ad.block ≠ b) (h : Dg w lo A n c a) : Dg w' lo A n c a := ⟨Rw.putU k hne h.row, h.len, h.cap⟩
theorem Dg.gr {row : Option Nat} (k : w.grownBy w' row) (hne : ∀ ad, A = some ad → some ad.block ≠ row) (h : Dg w lo A n c a) : Dg w' lo A n c a := ⟨h.row.gr k hne, h.len, h.cap⟩
theorem Dg.mono {lo' : Nat} (hl : lo' ≤ lo) (h : Dg w lo A n c a) : Dg w lo' A n c a := ⟨h.row.mono hl, h.len, h.cap⟩
theorem Dg.lt (h : Dg w lo A n c a) : ∀ x ∈ toB 10 a, x < 10 := toB_lt 10 om a
theorem Dg.val (h : Dg w lo A n c a) : ofB 10 (toB 10 a) = a := ofB_toB 10 om a
theorem Dg.zero (w : World) (lo : Nat) : Dg w lo none 0 0 0 := ⟨Rw.nil w lo, rfl, Nat.le_refl _⟩
theorem Dg.of {l : List Nat} (hr : Rw w lo A (ints l)) (hd : ∀ d ∈ l, d < 10) (hv : ofB 10 l = a) (hl : l.getLast? ≠ some 0) (hn : l.length = n) (hc : n ≤ c) : Dg w lo A n c a := by
  have e : l = toB 10 a := by rw [← hv]; exact canon_eq om ⟨hd, hl⟩
  subst e; exact ⟨hr, hn, hc⟩
theorem Dg.trim {l : List Nat} {m : Nat} (hr : Rw w lo A (ints l)) (hd : ∀ d ∈ l, d < 10) (hv : ofB 10 l = a) (ht : trimL l = l.take m) (hm : m ≤ l.length) (hc : m ≤ c) : Dg w lo A m c a := by
  have h1 : toB 10 a = l.take m := by rw [← ht, ← hv]; exact (trimL_eq 10 om l hd).symm
  refine ⟨?_, ?_, hc⟩
  · rw [h1]
    have := hr.take m
    simpa [ints, List.map_take] using this
  · rw [h1]; simp; omega
end
theorem digs_get {d : List UInt8} {i : Nat} {c : UInt8} (hc : d[d.length - 1 - i]? = some c) (hi : i < d.length) : digs (d.drop (d.length - i)) ++ [c.toNat - 48] = digs (d.drop (d.length - (i + 1))) := by
  have hlt : d.length - (i + 1) < d.length := by omega
  have he : d.drop (d.length - (i + 1)) = c :: d.drop (d.length - i) := by
    rw [List.drop_eq_getElem_cons hlt]
    have e2 : d[d.length - (i + 1)]? = some c := by rw [show d.length - (i + 1) = d.length - 1 - i by omega]; exact hc
    rw [List.getElem?_eq_getElem hlt] at e2
    rw [Option.some.inj e2, show d.length - (i + 1) + 1 = d.length - i by omega]
  rw [he]; simp [digs]
set_option maxRecDepth 100000 in
theorem r3Valid_ok (l : List UInt8) (w : World) (hl : l.length ≤ 1000000) :
    Calls Tryz.prog 104 #[S (l)] w (Ret w fun v w' => v = .bool (isInt l)) := by
 refine f_in Tryz.func104 rfl ?_;refine go ?_;by_cases e8 : 0 < (((l).length : Nat) : Int);refine go ?_;refine l_op (k_lenL (l := l) U9 rfl ?_);refine go ?_;have fw := byteAt_ (l := l) (i := 0) om;refine l_op (k_byte (l := l) (i := 0) (c := (l.getD 0 0)) U9 rfl rfl fw ?_);refine go ?_;by_cases fp : (((l.getD 0 0).toNat : Nat) : Int) = 45;have hb := head_min (byteAt_ om) fp;refine go ?_;refine l_op (k_sliceS (l := l) (i := 1) (j := (l).length) U9 rfl (.inr ⟨_, congrArg some rfl⟩) (.inl ⟨rfl, rfl⟩) om om ?_);rw [show ((l).take ((l).length)).drop (1) = (l).drop (1) by rw [List.take_length]]
 refine go ?_;refine eqs (b := [48]) ?_;refine go ?_;by_cases fl : ((l).drop (1)) = ([48]);refine go ?_;exact f_ret1 (t := 2) (v := .bool (false)) rfl (Ext.refl _) (by first | exact vf0 hb (by assumption) | exact vf1 hb (by assumption) | exact vf2 hb (by assumption) | exact vf5 hb (by assumption) (dig_lo (by assumption)) | exact vf5 hb (by assumption) (dig_hi (by assumption)) | exact vf3 hb (by assumption) | exact vf4 hb hall (by assumption) (by assumption) (by assumption) (by assumption) | (exfalso; omega)) rfl;refine go ?_;have hlD : ((l).drop (1)).length ≤ 1000000 := by first | omega | (simp; omega)
 have fx := Ext.refl w;refine c_lp [(2, 3), (16, 31)] (fun kk e W => ∃ i : Nat, (((l).drop (1)).length - i = kk) ∧ (e 3 = .int .i64 i) ∧ (i ≤ ((l).drop (1)).length) ∧ ((((l).drop (1)).take i).all isDig = true) ∧ (Ext w W)) (((l).drop (1)).length - (0)) ⟨0, rfl, rfl, (Nat.zero_le _), rfl, fx⟩ ?_;rintro gk gl gm ⟨i, rfl, fm, hi, ha, fj⟩;have gn := bz fj;by_cases hlt : i < ((l).drop (1)).length;refine go ?_;refine l_op (k_lenLm (l := (l).drop (1)) (m := ((l).drop (1)).length) U9 rfl rfl ?_);refine go ?_;by_cases fe : (((((l).drop (1)).getD (i) 0).toNat : Nat) : Int) < 48;refine go ?_;have fy := byteAt_ (l := (l).drop (1)) (i := (i)) om;refine l_op (k_byte (l := (l).drop (1)) (i := (i)) (c := (((l).drop (1)).getD (i) 0)) U9 rfl rfl fy ?_);refine go ?_;exact f_ret1 (t := 2) (v := .bool (false)) rfl fj (by first | exact vf0 hb (by assumption) | exact vf1 hb (by assumption) | exact vf2 hb (by assumption) | exact vf5 hb (by assumption) (dig_lo (by assumption)) | exact vf5 hb (by assumption) (dig_hi (by assumption)) | exact vf3 hb (by assumption) | exact vf4 hb hall (by assumption) (by assumption) (by assumption) (by assumption) | (exfalso; omega)) rfl;refine go ?_;have f6 := byteAt_ (l := (l).drop (1)) (i := (i)) om;refine l_op (k_byte (l := (l).drop (1)) (i := (i)) (c := (((l).drop (1)).getD (i) 0)) U9 rfl rfl f6 ?_);refine go ?_;have f7 := byteAt_ (l := (l).drop (1)) (i := (i)) om;refine l_op (k_byte (l := (l).drop (1)) (i := (i)) (c := (((l).drop (1)).getD (i) 0)) U9 rfl rfl f7 ?_)
 refine go ?_;by_cases fq : 57 < (((((l).drop (1)).getD (i) 0).toNat : Nat) : Int);refine go ?_;exact f_ret1 (t := 2) (v := .bool (false)) rfl fj (by first | exact vf0 hb (by assumption) | exact vf1 hb (by assumption) | exact vf2 hb (by assumption) | exact vf5 hb (by assumption) (dig_lo (by assumption)) | exact vf5 hb (by assumption) (dig_hi (by assumption)) | exact vf3 hb (by assumption) | exact vf4 hb hall (by assumption) (by assumption) (by assumption) (by assumption) | (exfalso; omega)) rfl;refine go ?_;refine l_op (k_add (a := (i : Int)) (b := 1) (c := ((i + 1 : Nat) : Int)) rfl rfl (by unfold In64; omega) om ?_);refine go ?_;exact lend ⟨i + 1, rfl, rfl, om, (by first | exact all_take_step ha (by assumption) (dig_ok (by assumption) (by assumption))), fj⟩;have hall : ((l).drop (1)).all isDig = true := by rw [← List.take_length (l := (l).drop (1)), show ((l).drop (1)).length = i by omega]; exact ha
 refine go ?_;refine l_op (k_lenLm (l := (l).drop (1)) (m := ((l).drop (1)).length) U9 rfl rfl ?_);refine go ?_;by_cases fd : 0 < ((((l).drop (1)).length : Nat) : Int);by_cases fg : ((((l).drop (1)).length : Nat) : Int) ≤ 200;refine go ?_;refine l_op (k_lenL (l := (l).drop (1)) U9 rfl ?_);refine go ?_;refine l_op (k_lenL (l := (l).drop (1)) U9 rfl ?_);refine go ?_;refine eqs (b := [48]) ?_;refine go ?_;have f8 := byteAt_ (l := (l).drop (1)) (i := 0) om;refine l_op (k_byte (l := (l).drop (1)) (i := 0) (c := (((l).drop (1)).getD 0 0)) U9 rfl rfl f8 ?_);refine go ?_;exact f_ret1 (t := 2) (v := .bool (!decide ((((((l).drop (1)).getD 0 0).toNat : Nat) : Int) = 48))) rfl fj (by first | exact vf0 hb (by assumption) | exact vf1 hb (by assumption) | exact vf2 hb (by assumption) | exact vf5 hb (by assumption) (dig_lo (by assumption)) | exact vf5 hb (by assumption) (dig_hi (by assumption)) | exact vf3 hb (by assumption) | exact vf4 hb hall (by assumption) (by assumption) (by assumption) (by assumption) | (exfalso; omega)) rfl;refine go ?_;refine l_op (k_lenL (l := (l).drop (1)) U9 rfl ?_);refine go ?_;refine l_op (k_lenL (l := (l).drop (1)) U9 rfl ?_);refine go ?_;exact f_ret1 (t := 2) (v := .bool (false)) rfl fj (by first | exact vf0 hb (by assumption) | exact vf1 hb (by assumption) | exact vf2 hb (by assumption) | exact vf5 hb (by assumption) (dig_lo (by assumption)) | exact vf5 hb (by assumption) (dig_hi (by assumption)) | exact vf3 hb (by assumption) | exact vf4 hb hall (by assumption) (by assumption) (by assumption) (by assumption) | (exfalso; omega)) rfl
 refine go ?_;refine l_op (k_lenL (l := (l).drop (1)) U9 rfl ?_);refine go ?_;exact f_ret1 (t := 2) (v := .bool (false)) rfl fj (by first | exact vf0 hb (by assumption) | exact vf1 hb (by assumption) | exact vf2 hb (by assumption) | exact vf5 hb (by assumption) (dig_lo (by assumption)) | exact vf5 hb (by assumption) (dig_hi (by assumption)) | exact vf3 hb (by assumption) | exact vf4 hb hall (by assumption) (by assumption) (by assumption) (by assumption) | (exfalso; omega)) rfl;have hb := head_no (byteAt_ om) fp;refine go ?_;have hlD : (l).length ≤ 1000000 := by first | omega | (simp; omega)
 have f9 := Ext.refl w;refine c_lp [(2, 3), (16, 31)] (fun kk e W => ∃ i : Nat, ((l).length - i = kk) ∧ (e 3 = .int .i64 i) ∧ (i ≤ (l).length) ∧ (((l).take i).all isDig = true) ∧ (Ext w W)) ((l).length - (0)) ⟨0, rfl, rfl, (Nat.zero_le _), rfl, f9⟩ ?_;rintro gp gq gu ⟨i, rfl, fo, hi, ha, fk⟩;have gv := bz fk;by_cases hlt : i < (l).length;refine go ?_;refine l_op (k_lenLm (l := l) (m := (l).length) U9 rfl rfl ?_);refine go ?_;by_cases fh : (((l.getD (i) 0).toNat : Nat) : Int) < 48;refine go ?_;have gc := byteAt_ (l := l) (i := (i)) om;refine l_op (k_byte (l := l) (i := (i)) (c := (l.getD (i) 0)) U9 rfl rfl gc ?_);refine go ?_;exact f_ret1 (t := 2) (v := .bool (false)) rfl fk (by first | exact vf0 hb (by assumption) | exact vf1 hb (by assumption) | exact vf2 hb (by assumption) | exact vf5 hb (by assumption) (dig_lo (by assumption)) | exact vf5 hb (by assumption) (dig_hi (by assumption)) | exact vf3 hb (by assumption) | exact vf4 hb hall (by assumption) (by assumption) (by assumption) (by assumption) | (exfalso; omega)) rfl;refine go ?_;have gd := byteAt_ (l := l) (i := (i)) om;refine l_op (k_byte (l := l) (i := (i)) (c := (l.getD (i) 0)) U9 rfl rfl gd ?_);refine go ?_;have gg := byteAt_ (l := l) (i := (i)) om;refine l_op (k_byte (l := l) (i := (i)) (c := (l.getD (i) 0)) U9 rfl rfl gg ?_);refine go ?_;by_cases fu : 57 < (((l.getD (i) 0).toNat : Nat) : Int);refine go ?_;exact f_ret1 (t := 2) (v := .bool (false)) rfl fk (by first | exact vf0 hb (by assumption) | exact vf1 hb (by assumption) | exact vf2 hb (by assumption) | exact vf5 hb (by assumption) (dig_lo (by assumption)) | exact vf5 hb (by assumption) (dig_hi (by assumption)) | exact vf3 hb (by assumption) | exact vf4 hb hall (by assumption) (by assumption) (by assumption) (by assumption) | (exfalso; omega)) rfl
 refine go ?_;refine l_op (k_add (a := (i : Int)) (b := 1) (c := ((i + 1 : Nat) : Int)) rfl rfl (by unfold In64; omega) om ?_);refine go ?_;exact lend ⟨i + 1, rfl, rfl, om, (by first | exact all_take_step ha (by assumption) (dig_ok (by assumption) (by assumption))), fk⟩;have hall : (l).all isDig = true := by rw [← List.take_length (l := l), show (l).length = i by omega]; exact ha
 refine go ?_;refine l_op (k_lenLm (l := l) (m := (l).length) U9 rfl rfl ?_);refine go ?_;by_cases fc : (((l).length : Nat) : Int) ≤ 200;by_cases fi : l = ([48]);refine go ?_;refine l_op (k_lenL (l := l) U9 rfl ?_);refine go ?_;refine l_op (k_lenL (l := l) U9 rfl ?_);refine go ?_;refine eqs (b := [48]) ?_;refine go ?_;exact f_ret1 (t := 2) (v := .bool (true)) rfl fk (by first | exact vf0 hb (by assumption) | exact vf1 hb (by assumption) | exact vf2 hb (by assumption) | exact vf5 hb (by assumption) (dig_lo (by assumption)) | exact vf5 hb (by assumption) (dig_hi (by assumption)) | exact vf3 hb (by assumption) | exact vf4 hb hall (by assumption) (by assumption) (by assumption) (by assumption) | (exfalso; omega)) rfl;refine go ?_;refine l_op (k_lenL (l := l) U9 rfl ?_);refine go ?_;refine l_op (k_lenL (l := l) U9 rfl ?_);refine go ?_;refine eqs (b := [48]) ?_;refine go ?_;have gh := byteAt_ (l := l) (i := 0) om;refine l_op (k_byte (l := l) (i := 0) (c := (l.getD 0 0)) U9 rfl rfl gh ?_);refine go ?_;exact f_ret1 (t := 2) (v := .bool (!decide ((((l.getD 0 0).toNat : Nat) : Int) = 48))) rfl fk (by first | exact vf0 hb (by assumption) | exact vf1 hb (by assumption) | exact vf2 hb (by assumption) | exact vf5 hb (by assumption) (dig_lo (by assumption)) | exact vf5 hb (by assumption) (dig_hi (by assumption)) | exact vf3 hb (by assumption) | exact vf4 hb hall (by assumption) (by assumption) (by assumption) (by assumption) | (exfalso; omega)) rfl
 refine go ?_;refine l_op (k_lenL (l := l) U9 rfl ?_);refine go ?_;refine l_op (k_lenL (l := l) U9 rfl ?_);refine go ?_;exact f_ret1 (t := 2) (v := .bool (false)) rfl fk (by first | exact vf0 hb (by assumption) | exact vf1 hb (by assumption) | exact vf2 hb (by assumption) | exact vf5 hb (by assumption) (dig_lo (by assumption)) | exact vf5 hb (by assumption) (dig_hi (by assumption)) | exact vf3 hb (by assumption) | exact vf4 hb hall (by assumption) (by assumption) (by assumption) (by assumption) | (exfalso; omega)) rfl;have hb := head_nil e8;refine go ?_;refine l_op (k_lenL (l := l) U9 rfl ?_);refine go ?_;have hlD : (l).length ≤ 1000000 := by first | omega | (simp; omega)
 have gi := Ext.refl w;refine c_lp [(2, 3), (16, 31)] (fun kk e W => ∃ i : Nat, ((l).length - i = kk) ∧ (e 3 = .int .i64 i) ∧ (i ≤ (l).length) ∧ (((l).take i).all isDig = true) ∧ (Ext w W)) ((l).length - (0)) ⟨0, rfl, rfl, (Nat.zero_le _), rfl, gi⟩ ?_;rintro gw gy gz ⟨i, rfl, gj, hi, ha, fv⟩;have g6 := bz fv;by_cases hlt : i < (l).length;exact absurd hlt om;have hall : (l).all isDig = true := by rw [← List.take_length (l := l), show (l).length = i by omega]; exact ha
 refine go ?_;refine l_op (k_lenLm (l := l) (m := (l).length) U9 rfl rfl ?_);refine go ?_;refine l_op (k_lenL (l := l) U9 rfl ?_);refine go ?_;exact f_ret1 (t := 2) (v := .bool (false)) rfl fv (by first | exact vf0 hb (by assumption) | exact vf1 hb (by assumption) | exact vf2 hb (by assumption) | exact vf5 hb (by assumption) (dig_lo (by assumption)) | exact vf5 hb (by assumption) (dig_hi (by assumption)) | exact vf3 hb (by assumption) | exact vf4 hb hall (by assumption) (by assumption) (by assumption) (by assumption) | (exfalso; omega)) rfl
end Go.Proofs.YtepcnphmfbbhiaaGreatDoor
