/- Part of the proof that all functions of the layer agree with the reference implementation. -/
import Derived.Test.YtepcnphmfbbhiaaGreatDoorLib9ToLib10
import Derived.Test.YtepcnphmfbbhiaaGreatDoorEngH
import Derived.Lib.Atoi
set_option linter.all false
set_option linter.all false
namespace Go.Proofs.YtepcnphmfbbhiaaGreatDoor
open Go Go.Eng Go.RowKit
attribute [local irreducible] wpListIn Code.wpIn Oper.wpIn Exit.then Exit.inBlock Exit.noGoto
set_option maxHeartbeats 40000000
theorem body_ok (l : List UInt8) (w : World) : Calls Tryz.prog 141 #[S l, S [45]] w (Ret w fun v _ => v = S (body l)) := by
  have h := trimPrefix_ok l [45] w
  rw [trimPrefix_body] at h
  exact h
theorem mem_digits {b : UInt8} : DIGITS.contains b = isDig b := by
  have h : ∀ b : Fin 256, DIGITS.contains (UInt8.ofNat b.val) = isDig (UInt8.ofNat b.val) := by decide +kernel
  have := h ⟨b.toNat, b.toNat_lt⟩
  simpa using this
theorem trimS_nil (d : List UInt8) : Lib.trimS d DIGITS = [] ↔ d.all isDig = true := by
  have hd : ∀ l : List UInt8, l.dropWhile (fun b => DIGITS.contains b) = [] ↔ l.all isDig = true := by
    intro l
    induction l with
    | nil => simp
    | cons a t ih =>
      simp only [List.dropWhile_cons, List.all_cons, mem_digits] at ih ⊢
      cases isDig a <;> simp_all
  unfold Lib.trimS Lib.trimLeftS
  rw [hd]
  unfold Lib.trimRightS
  constructor
  · intro h
    by_cases hn : (d.reverse.dropWhile (fun b => DIGITS.contains b)) = []
    · rw [hd] at hn; simpa using hn
    · exfalso
      have h2 : (d.reverse.dropWhile (fun b => DIGITS.contains b)).head hn ∉ DIGITS := by
        have := List.head_dropWhile_not (p := fun b => DIGITS.contains b) (l := d.reverse) hn
        simpa using this
      have h3 : isDig ((d.reverse.dropWhile (fun b => DIGITS.contains b)).head hn) = true := by
        refine List.all_eq_true.1 h _ ?_
        rw [List.mem_reverse]
        exact List.head_mem hn
      rw [← mem_digits] at h3
      exact h2 (by simpa using h3)
  · intro h
    have : (d.reverse.dropWhile (fun b => DIGITS.contains b)) = [] := by rw [hd]; simpa using h
    rw [this]; rfl
theorem vno1 {l : List UInt8} (h : body l = []) : Value.bool false = .bool (isInt l) := by simp [isInt, isNum, h]
theorem vno2 {l : List UInt8} (h : (200 : Int) < (((body l).length : Nat) : Int)) : Value.bool false = .bool (isInt l) := by
  have : ¬ (body l).length ≤ 200 := by omega
  simp [isInt, isNum, this]
theorem vno3 {l : List UInt8} (h : ¬ Lib.trimS (body l) DIGITS = []) : Value.bool false = .bool (isInt l) := by
  rw [trimS_nil] at h
  simp [isInt, isNum, h]
theorem vyes {l : List UInt8} (h : l = [48]) : Value.bool true = .bool (isInt l) := by subst h; rw [isInt_zero]
theorem len_pos {l : List UInt8} (h : ¬ l = []) : 0 < l.length := List.length_pos_iff.2 h
theorem vhead {l : List UInt8} {c : UInt8} (hc : (body l)[0]? = some c) (h1 : ¬ body l = []) (h2 : ¬ (200 : Int) < (((body l).length : Nat) : Int)) (h3 : Lib.trimS (body l) DIGITS = []) (h4 : ¬ l = [48]) :
    Value.bool (!decide (((c.toNat : Nat) : Int) = 48)) = .bool (isInt l) := by
  rw [trimS_nil] at h3
  have h5 : (body l).length ≤ 200 := by omega
  have h6 : (body l).isEmpty = false := by cases hb : body l <;> simp_all
  have hc48 : (((c.toNat : Nat) : Int) = 48) ↔ c = 48 := by
    constructor
    · intro h; exact UInt8.toNat_inj.1 (by have : (48 : UInt8).toNat = 48 := rfl; omega)
    · intro h; subst h; rfl
  have hh : (body l).head? = some c := by rw [List.head?_eq_getElem?]; exact hc
  congr 1
  simp only [isInt, isNum, h3, h5, h6, hh, decide_true, Bool.not_false, Bool.true_and, Option.some.injEq, hc48, ne_eq]
  by_cases hb : body l = [48]
  · have hn : neg l = true := by
      cases hn : neg l with
      | true => rfl
      | false => exact absurd ((body_neg hn).symm.trans hb) h4
    have : c = 48 := by rw [hb] at hc; simpa using hc.symm
    simp [hb, hn, this]
  · simp [hb]
set_option maxRecDepth 100000 in
theorem isValid_ok (l : List UInt8) (w : World) :
    Calls Tryz.prog 119 #[S (l)] w (Ret w fun v w' => v = .bool (isInt l)) := by
 refine f_in Tryz.func119 rfl ?_;refine go ?_;refine cl en136 (body_ok l _) ?_;rintro v3 w1 k2 rfl;have E4 := k2.2;refine go ?_;by_cases h5 : (body l) = ([]);refine go ?_;refine eqs (b := []) ?_;refine go ?_;exact f_ret1 (t := 2) (v := .bool (false)) rfl E4 (by first | exact vno1 (by assumption) | exact vno2 (by assumption) | exact vno3 (by assumption) | exact vyes (by assumption) | exact vhead (by assumption) (by assumption) (by assumption) (by assumption) (by assumption)) rfl;by_cases h6 : 200 < (((body l).length : Nat) : Int);refine go ?_;refine eqs (b := []) ?_;refine go ?_;refine l_op (k_lenL (l := body l) U9 rfl ?_);refine go ?_;exact f_ret1 (t := 2) (v := .bool (false)) rfl E4 (by first | exact vno1 (by assumption) | exact vno2 (by assumption) | exact vno3 (by assumption) | exact vyes (by assumption) | exact vhead (by assumption) (by assumption) (by assumption) (by assumption) (by assumption)) rfl;refine go ?_;refine eqs (b := []) ?_;refine go ?_;refine l_op (k_lenL (l := body l) U9 rfl ?_);refine go ?_;refine clb en137 (hc := trim_ok (body l) _ om) (hk := ?_);rintro v9 w7 k8 rfl;have E4 := xt E4 k8.2;refine go ?_;refine nes (b := []) ?_;refine go ?_;by_cases h10 : (Lib.trimS (body l) DIGITS) = ([]);refine go ?_;by_cases h11 : l = ([48]);refine go ?_;refine eqs (b := [48]) ?_;refine go ?_;exact f_ret1 (t := 2) (v := .bool (true)) rfl E4 (by first | exact vno1 (by assumption) | exact vno2 (by assumption) | exact vno3 (by assumption) | exact vyes (by assumption) | exact vhead (by assumption) (by assumption) (by assumption) (by assumption) (by assumption)) rfl
 refine go ?_;refine eqs (b := [48]) ?_;refine go ?_;have hc12 := byteAt_ (l := body l) (i := 0) (len_pos (by assumption));refine l_op (k_byte (l := body l) (i := 0) (c := ((body l).getD 0 0)) U9 rfl rfl hc12 ?_);refine go ?_;exact f_ret1 (t := 2) (v := .bool (!decide (((((body l).getD 0 0).toNat : Nat) : Int) = 48))) rfl E4 (by first | exact vno1 (by assumption) | exact vno2 (by assumption) | exact vno3 (by assumption) | exact vyes (by assumption) | exact vhead (by assumption) (by assumption) (by assumption) (by assumption) (by assumption)) rfl;refine go ?_;exact f_ret1 (t := 2) (v := .bool (false)) rfl E4 (by first | exact vno1 (by assumption) | exact vno2 (by assumption) | exact vno3 (by assumption) | exact vyes (by assumption) | exact vhead (by assumption) (by assumption) (by assumption) (by assumption) (by assumption)) rfl
end Go.Proofs.YtepcnphmfbbhiaaGreatDoor
set_option linter.all false
namespace Go.Proofs.YtepcnphmfbbhiaaGreatDoor
open Go Go.Eng Go.RowKit
attribute [local irreducible] wpListIn Code.wpIn Oper.wpIn Exit.then Exit.inBlock Exit.noGoto
set_option maxHeartbeats 40000000
theorem digs_append (a b : List UInt8) : digs (a ++ b) = digs b ++ digs a := by simp [digs]
theorem ofB_groups (gs : List Nat) (a b : List Nat) (v : Nat) (k : Nat) (hk : gs.length = k) (ha : a.length = 4 * k) (h : ofB 10000 gs = ofB 10 a) (hv : v = ofB 10 b) : ofB 10000 (gs ++ [v]) = ofB 10 (a ++ b) := by
  rw [ofB_append, ofB_append, h, ha, hk, hv]
  have : (10 : Nat) ^ (4 * k) = 10000 ^ k := by rw [Nat.pow_mul]
  rw [this]
  simp [ofB]
theorem decFrom_digs : ∀ (l : List UInt8) (acc : Nat), l.all isDig = true → Lib.decFrom acc l = some (acc * 10 ^ l.length + ofB 10 (digs l))
  | [], acc, _ => by simp [Lib.decFrom, digs, ofB]
  | c :: t, acc, h => by
    simp only [List.all_cons, Bool.and_eq_true] at h
    have h1 := h.1
    simp only [isDig, Bool.and_eq_true, decide_eq_true_eq] at h1
    rw [Lib.decFrom, Lib.digitVal, if_pos h1]
    simp only []
    rw [decFrom_digs t _ h.2]
    have e : digs (c :: t) = digs t ++ [c.toNat - 48] := by simp [digs]
    rw [e, ofB_append, digs_length]
    simp only [ofB, List.length_cons, Nat.pow_succ, Option.some.injEq]
    generalize 10 ^ t.length = p
    generalize c.toNat - 48 = x
    rw [Nat.add_mul, Nat.mul_comm p 10, ← Nat.mul_assoc, Nat.mul_comm x p]
    simp
    omega
theorem atoi_digs {l : List UInt8} (h : l.all isDig = true) (h0 : l ≠ []) : Lib.atoi l = some ((ofB 10 (digs l) : Nat) : Int) := by
  cases l with
  | nil => exact absurd rfl h0
  | cons c t =>
    have hc : isDig c = true := by simp at h; exact h.1
    simp only [isDig, Bool.and_eq_true, decide_eq_true_eq] at hc
    have h1 : (c == 45) = false := by
      rw [beq_eq_false_iff_ne]; intro e; subst e; exact absurd hc.1 dc
    have h2 : (c == 43) = false := by
      rw [beq_eq_false_iff_ne]; intro e; subst e; exact absurd hc.1 dc
    rw [Lib.atoi, h1, h2]
    simp only [Bool.false_eq_true, if_false]
    rw [Lib.decNat]
    simp only [List.isEmpty_cons, Bool.false_eq_true, if_false]
    rw [decFrom_digs _ 0 h]
    simp
theorem ofB_lt_len (l : List UInt8) (h : l.all isDig = true) (hl : l.length ≤ 4) : ofB 10 (digs l) < 10000 := by
  have h1 := ofB_lt 10 (digs l) (digs_lt h)
  rw [digs_length] at h1
  exact Nat.lt_of_lt_of_le h1 (Nat.le_trans (Nat.pow_le_pow_right om hl) om)
theorem all_part {d : List UInt8} (h : d.all isDig = true) (i j : Nat) : ((d.take j).drop i).all isDig = true := by
  rw [List.all_eq_true] at *
  exact fun x hx => h x (List.mem_of_mem_take (List.mem_of_mem_drop hx))
structure Grp (d : List UInt8) (m : Nat) (gs : List Nat) : Prop where
  le : m ≤ d.length
  full : 0 < m → d.length - m = 4 * gs.length
  val : ofB 10000 gs = ofB 10 (digs (d.drop m))
  lt : ∀ g ∈ gs, g < 10000
  cnt : gs.length ≤ d.length
theorem Grp.start (d : List UInt8) : Grp d d.length [] := ⟨Nat.le_refl _, fun _ => by simp, by simp [digs, ofB], by simp, by simp⟩
theorem Grp.step {d : List UInt8} {m : Nat} {gs : List Nat} (hd : d.all isDig = true) (h : Grp d m gs) (hm : 0 < m) : Grp d (m - 4) (gs ++ [ofB 10 (digs ((d.take m).drop (m - 4)))]) := by
  have hle := h.le
  have hf := h.full hm
  refine ⟨by omega, fun h0 => by simp; omega, ?_, ?_, by simp; omega⟩
  · have e : d.drop (m - 4) = (d.take m).drop (m - 4) ++ d.drop m := by
      rw [← List.drop_append_of_le_length (by simp; omega), List.take_append_drop]
    rw [e, digs_append]
    exact ofB_groups _ _ _ _ _ rfl (by rw [digs_length, List.length_drop]; exact hf) h.val rfl
  · intro g hg
    rcases List.mem_append.1 hg with hg | hg
    · exact h.lt g hg
    · rw [List.mem_singleton.1 hg]
      exact ofB_lt_len _ (all_part hd _ _) (by simp; omega)
theorem Grp.len {d : List UInt8} {m : Nat} {gs : List Nat} (h : Grp d m gs) (hm : 0 < m) : gs.length ≤ d.length := by have := h.full hm; have := h.le; omega
def Sg (w : World) (lo : Nat) (ng : Bool) (a : Nat) (v : Value) : Prop := ∃ A n c, v = .agg #[.bool ng, .slice A n c] ∧ Num w lo A n c a
theorem max_sub (m : Nat) : (if (0 : Int) < (m : Int) - 4 then (m : Int) - 4 else 0) = ((m - 4 : Nat) : Int) := by split <;> omega
theorem decide_neg (l : List UInt8) : decide (((body l).length : Int) < ((l.length : Nat) : Int)) = neg l := by
  cases h : neg l with
  | true => rw [neg_cons h]; simp [body]; omega
  | false => rw [body_neg h]; simp
theorem ne_nil {l : List UInt8} (h : 0 < l.length) : l ≠ [] := List.length_pos_iff.1 h
theorem Grp.all {d : List UInt8} {m : Nat} {gs : List Nat} (h : Grp d m gs) (hm : ¬ 0 < m) : ofB 10000 gs = valN d := by
  have := h.val
  rw [show m = 0 by omega, List.drop_zero] at this
  exact this
set_option maxRecDepth 100000 in
theorem parse_ok (l : List UInt8) (w : World) (h : isInt l = true) :
    Calls Tryz.prog 120 #[S (l)] w (Ret w fun v w' => Sg w' w.heap.size (neg l) (valN (body l)) v) := by
 have hnum := isInt_num h;have hd := isNum_digs hnum;have hlen := isNum_len hnum;refine f_in Tryz.func120 rfl ?_;refine go ?_;refine al inf125 (fun w13 k14 hb15 => ?_);have E16 := k14.2;refine go ?_;refine cl en136 (body_ok l _) ?_;rintro v19 w17 k18 rfl;have hb15 := be k18.2 hb15;have E16 := xt E16 k18.2;refine go ?_;refine l_op (k_lenL (l := body l) U9 rfl ?_);refine go ?_;refine l_op (k_lenL (l := l) U9 rfl ?_);refine go ?_;rw [decide_neg];refine l_op (k_build (vs := [(0, .bool (neg l))]) (cells := #[.bool (neg l), .slice none 0 0]) (pl := [(0, 1), (1, 1)]) U125 inf125 (by kernel_rfl) rfl (by kernel_rfl) ?_);refine al inf125 (fun w20 k21 hb22 => ?_);have hb15 := be k21.2 hb15;have E16 := xt E16 k21.2;refine SA hb22 (fun w23 k24 hb25 => ?_);have hb15 := pb k24 hb15;have E16 := plw k24 E16;have zw23 := psz k24;refine go ?_;have own0 : World.ownsRow w23 w.heap.size 3 1 (.slice none 0 0) 0 (ints []) := own_nil;refine c_lp [(3, 3), (5, 7), (16, 38)] (fun kk e W => ∃ m : Nat, ∃ gs : List Nat, ∃ vv : Value, (m = kk) ∧ (e 3 = S ((body l).take m)) ∧ (Grp (body l) m gs) ∧ ((vv).ownBlock ≠ some (w.heap.size)) ∧ ((vv).ownBlock ≠ some (w17.heap.size)) ∧ (Ext w W) ∧ (Blk W (w.heap.size) 117 #[.bool (false), .slice (none) (0) (0)]) ∧ (Blk W (w17.heap.size) 117 #[.bool (neg l), vv]) ∧ (W.ownsRow w.heap.size 3 1 vv gs.length (ints gs))) (((body l).length)) ⟨(body l).length, [], .slice none 0 0, rfl, (congrArg S (by rw [List.take_length])), (Grp.start _), (by simp [Value.ownBlock]), (by simp [Value.ownBlock]), E16, hb15, hb25, own0⟩ ?_
 rintro kk30 e28 w29 ⟨m, gs, vv, rfl, p31, q1, n26, n27, E32, hb15, hb25, ho⟩;have zw29 := bz E32;have hml := q1.le;by_cases hm : 0 < m;have hgl := q1.len hm;have hml := q1.le;refine go ?_;refine l_op (k_lenLm (l := (body l).take m) (m := m) U9 rfl (by simp; omega) ?_);refine go ?_;refine l_op (k_lenLm (l := (body l).take m) (m := m) U9 rfl (by simp; omega) ?_);refine sui ?_;refine l_op (k_max (a := 0) (b := (m : Int) - 4) (m := ((m - 4 : Nat) : Int)) rfl rfl (max_sub m) ?_);refine go ?_;refine l_op (k_sliceS (l := (body l).take m) (i := (m - 4)) (j := ((body l).take m).length) U9 rfl (.inr ⟨_, congrArg some rfl⟩) (.inl ⟨rfl, rfl⟩) (by simp; omega) (by simp) ?_);rw [show (((body l).take m).take (((body l).take m).length)).drop ((m - 4)) = ((body l).take m).drop ((m - 4)) by rw [List.take_length]]
 refine clb en138 (hc := atoi_ok _ _ _ (by simp; omega) (atoi_digs (all_part hd _ _) (ne_nil (by simp; omega)))) (hk := ?_);rintro v35 w33 k34 rfl;have hb15 := be k34.2 hb15;have hb25 := be k34.2 hb25;have ho := own_ext k34.2 ho;have E32 := xt E32 k34.2;refine go ?_;refine BS (fun w36 k37 hz38 ho39 => ?_);have n40 := own_ne_new ho;have hb15 := be k37 hb15;have hb25 := be k37 hb25;have ho := own_ext k37 ho;have E32 := xt E32 k37;have zw36 := bz k37;refine AP ho (Rw.of_own ho39) (fun v42 w41 ho43 hg44 ha45 => ?_);have n46 := own_ne_app ha45 n26 (bt hb15);have n47 := own_ne_app ha45 n27 (bt hb25);have hb15 := Blk.gr hg44 (fun e => n26 e.symm) hb15;have hb25 := Blk.gr hg44 (fun e => n27 e.symm) hb25;have E32 := low_app ho om om E32 hg44;have zw41 := hg44.size;refine go ?_;refine l_op (k_store (b := w17.heap.size) (o := 1) (v := v42) sz123 rfl rfl (own_one ho43) hb25 (by first | decide | exact Nat.le_of_ble_eq_true rfl | simp) (fun w48 k49 hb50 => ?_));have hb15 := pb k49 hb15;have ho43 := own_put k49 (n47) ho43;have E32 := plw k49 E32;have zw48 := psz k49;refine go ?_;refine l_op (k_sliceS (l := (body l).take m) (i := 0) (j := (m - 4)) U9 rfl (.inl ⟨rfl, rfl⟩) (.inr ⟨_, congrArg some rfl⟩) om (by simp; omega) ?_);rw [show (((body l).take m).take ((m - 4))).drop 0 = ((body l).take m).take ((m - 4)) from rfl];refine go ?_;exact lend ⟨m - 4, gs ++ [ofB 10 (digs (((body l).take m).drop (m - 4)))], v42, rfl, (congrArg S (by rw [List.take_take]; congr 1; omega)), (Grp.step hd q1 hm), n46, n47, E32, hb15, hb50, (own_cast ho43 (by simp) (by rw [ints_append]; rfl))⟩
 obtain ⟨Av, cv, rfl, hkc, -⟩ := own_form ho;have hcn := q1.cnt;refine go ?_;refine l_op (k_lenLm (l := (body l).take m) (m := m) U9 rfl (by simp; omega) ?_);refine go ?_;refine clb en123 (hc := trimmed_ok (Rw.of_own ho) rfl hkc om) (hk := ?_);rintro v53 w51 k52 ⟨m1, rfl, ht1, ht2⟩;have hb15 := be k52.2 hb15;have hb25 := be k52.2 hb25;have ho := own_ext k52.2 ho;have E32 := xt E32 k52.2;refine go ?_;refine SO hb25 (fun w54 k55 hb56 => ?_);have hb15 := pb k55 hb15;have ho := own_put k55 (n27) ho;have E32 := plw k55 E32;have zw54 := psz k55;refine go ?_;refine SA hb15 (fun w57 k58 hb59 => ?_);have hb56 := pb k58 hb56;have ho := own_put k58 (n26) ho;have E32 := plw k58 E32;have zw57 := psz k58;refine go ?_;refine f_out (v := .agg #[.bool (neg l), .slice (Av) (m1) (cv)]) (res1  rfl ?_) E32 ⟨Av, m1, cv, rfl, num_q (Rw.of_own ho) q1.lt (q1.all hm) ht1 om om⟩;refine res_cellA (t := 2) (cs := [.bool (neg l), .slice (Av) (m1) (cv)]) (b := w.heap.size) (o := 0) U125 rfl sz125 ?_ ?_;exact rfl;exact Blk.cells hb59 (i := 0) rfl
end Go.Proofs.YtepcnphmfbbhiaaGreatDoor
