/- Part of the proof that all functions of the layer agree with the reference implementation. -/
import Derived.Test.YtepcnphmfbbhiaaGreatDoorDecToDec6
set_option linter.all false
set_option linter.all false
namespace Go.Eng
def isDig (c : UInt8) : Bool := decide (48 ≤ c.toNat) && decide (c.toNat ≤ 57)
def body : List UInt8 → List UInt8
  | 45 :: t => t
  | l => l
def neg : List UInt8 → Bool
  | 45 :: _ => true
  | _ => false
def digs (l : List UInt8) : List Nat := l.reverse.map fun c => c.toNat - 48
def valN (l : List UInt8) : Nat := ofB 10 (digs l)
def isNum (d : List UInt8) : Bool := !d.isEmpty && decide (d.length ≤ 200) && d.all isDig && (decide (d = [48]) || decide (d.head? ≠ some 48))
def isInt (l : List UInt8) : Bool := isNum (body l) && !(neg l && decide (body l = [48]))
def valZ (l : List UInt8) : Int := if neg l then -(valN (body l) : Int) else (valN (body l) : Int)
def showD (l : List Nat) : List UInt8 := l.reverse.map fun d => UInt8.ofNat (48 + d)
def showN (n : Nat) : List UInt8 := if n = 0 then [48] else showD (toB 10 n)
def showI (n : Int) : List UInt8 := if n < 0 then 45 :: showN n.natAbs else showN n.natAbs
def fits (n : Int) : Bool := decide (n.natAbs < 10 ^ 200)
theorem dig_lt {c : UInt8} (h : isDig c = true) : c.toNat - 48 < 10 := by simp [isDig] at h; omega
theorem digs_lt {l : List UInt8} (h : l.all isDig = true) : ∀ d ∈ digs l, d < 10 := by
  intro d hd
  simp only [digs, List.mem_map, List.mem_reverse] at hd
  obtain ⟨c, hc, rfl⟩ := hd
  exact dig_lt (List.all_eq_true.1 h c hc)
theorem byte_of {c : UInt8} (h : isDig c = true) : UInt8.ofNat (48 + (c.toNat - 48)) = c := by
  simp [isDig] at h
  rw [show 48 + (c.toNat - 48) = c.toNat by omega]
  simp
theorem showD_digs {l : List UInt8} (h : l.all isDig = true) : showD (digs l) = l := by
  unfold showD digs
  rw [← List.map_reverse, List.reverse_reverse, List.map_map]
  conv => rhs; rw [← List.map_id l]
  apply List.map_congr_left
  intro c hc
  exact byte_of (List.all_eq_true.1 h c hc)
theorem digs_showD {l : List Nat} (h : ∀ d ∈ l, d < 10) : digs (showD l) = l := by
  unfold showD digs
  rw [← List.map_reverse, List.reverse_reverse, List.map_map]
  conv => rhs; rw [← List.map_id l]
  apply List.map_congr_left
  intro d hd
  have := h d hd
  simp only [Function.comp, UInt8.toNat_ofNat', id]
  omega
theorem all_showD {l : List Nat} (h : ∀ d ∈ l, d < 10) : (showD l).all isDig = true := by
  rw [List.all_eq_true]
  intro c hc
  simp only [showD, List.mem_map, List.mem_reverse] at hc
  obtain ⟨d, hd, rfl⟩ := hc
  have := h d hd
  simp only [isDig, UInt8.toNat_ofNat', Bool.and_eq_true, decide_eq_true_eq]
  omega
theorem showD_length (l : List Nat) : (showD l).length = l.length := by simp [showD]
theorem digs_length (l : List UInt8) : (digs l).length = l.length := by simp [digs]
theorem digs_canon {d : List UInt8} (h : isNum d = true) (h0 : d ≠ [48]) : Canon 10 (digs d) := by
  simp only [isNum, Bool.and_eq_true, Bool.or_eq_true, decide_eq_true_eq] at h
  obtain ⟨⟨⟨h1, h2⟩, h3⟩, h4⟩ := h
  refine ⟨digs_lt h3, ?_⟩
  rcases h4 with h4 | h4
  · exact absurd h4 h0
  · cases d with
    | nil => simp at h1
    | cons c t =>
      have hc : isDig c = true := by simp at h3; exact h3.1
      have hne : c ≠ 48 := by simpa using h4
      simp only [digs, List.reverse_cons, List.map_append, List.map_cons, List.map_nil, List.getLast?_concat, ne_eq, Option.some.injEq]
      intro hz
      simp [isDig] at hc
      have : c.toNat = 48 := by omega
      exact hne (UInt8.toNat_inj.1 (by simpa using this))
theorem digs_toB {d : List UInt8} (h : isNum d = true) (h0 : d ≠ [48]) : digs d = toB 10 (valN d) := canon_eq (by omega) (digs_canon h h0)
theorem valN_zero : valN [48] = 0 := by decide
theorem valN_pos {d : List UInt8} (h : isNum d = true) (h0 : d ≠ [48]) : 0 < valN d := by
  refine Canon.pos (by omega) (digs_canon h h0) ?_
  intro e
  have : d.length = 0 := by rw [← digs_length, e]; rfl
  simp [isNum, List.length_eq_zero_iff.1 this] at h
theorem isNum_digs {d : List UInt8} (h : isNum d = true) : d.all isDig = true := by
  simp only [isNum, Bool.and_eq_true] at h; exact h.1.2
theorem isNum_len {d : List UInt8} (h : isNum d = true) : 0 < d.length ∧ d.length ≤ 200 := by
  simp only [isNum, Bool.and_eq_true, decide_eq_true_eq] at h
  refine ⟨?_, h.1.1.2⟩
  have := h.1.1.1
  cases d <;> simp at this ⊢
theorem valN_lt {d : List UInt8} (h : isNum d = true) : valN d < 10 ^ 200 := by
  have h1 : valN d < 10 ^ d.length := by rw [← digs_length]; exact ofB_lt 10 _ (digs_lt (isNum_digs h))
  exact Nat.lt_of_lt_of_le h1 (Nat.pow_le_pow_right (by omega) (isNum_len h).2)
theorem showN_valN {d : List UInt8} (h : isNum d = true) : showN (valN d) = d := by
  by_cases h0 : d = [48]
  · subst h0; decide
  · unfold showN
    rw [if_neg (by have := valN_pos h h0; omega), ← digs_toB h h0, showD_digs (isNum_digs h)]
theorem toB_ten_ne {n : Nat} (h : n ≠ 0) : toB 10 n ≠ [] := fun e => h (by have := ofB_toB 10 (by omega) n; rw [e] at this; exact this.symm)
theorem valN_showN (n : Nat) : valN (showN n) = n := by
  unfold showN
  split
  · next h => subst h; decide
  · rw [valN, digs_showD (toB_lt 10 (by omega) n), ofB_toB 10 (by omega)]
theorem isNum_showN {n : Nat} (h : n < 10 ^ 200) : isNum (showN n) = true := by
  unfold showN
  split
  · decide
  · next h0 =>
    have hne := toB_ten_ne h0
    have hl : (toB 10 n).length ≤ 200 := (length_toB_le_iff 10 (by omega) n 200).2 h
    have h1 : (showD (toB 10 n)).isEmpty = false := by
      cases hh : showD (toB 10 n) with
      | nil => exact absurd (List.length_eq_zero_iff.1 (by rw [← showD_length, hh]; rfl)) hne
      | cons a b => rfl
    simp only [isNum, h1, all_showD (toB_lt 10 (by omega) n), showD_length, hl, decide_true, Bool.not_false, Bool.and_self, Bool.true_and, Bool.or_eq_true, decide_eq_true_eq]
    right
    have h2 := getLast_toB 10 (by omega) n
    have h3 := toB_lt 10 (by omega) n
    unfold showD
    rw [List.head?_map, List.head?_reverse]
    cases hg : (toB 10 n).getLast? with
    | none => simp
    | some x =>
      simp only [Option.map_some, ne_eq, Option.some.injEq]
      intro e
      have hx : x < 10 := h3 x (List.mem_of_getLast? hg)
      have := congrArg UInt8.toNat e
      simp at this
      have : x = 0 := by omega
      subst this
      exact h2 hg
theorem showN_head (n : Nat) : (showN n).head? ≠ some 45 := by
  unfold showN
  split
  · decide
  · unfold showD
    rw [List.head?_map, List.head?_reverse]
    cases hg : (toB 10 n).getLast? with
    | none => simp
    | some x =>
      have hx : x < 10 := toB_lt 10 (by omega) n x (List.mem_of_getLast? hg)
      simp only [Option.map_some, ne_eq, Option.some.injEq]
      intro e
      have := congrArg UInt8.toNat e
      simp at this
      omega
theorem showN_inj {a b : Nat} (h : showN a = showN b) : a = b := by rw [← valN_showN a, h, valN_showN]
theorem body_of {l : List UInt8} (h : l.head? ≠ some 45) : body l = l := by
  unfold body; split
  · simp at h
  · rfl
theorem neg_of {l : List UInt8} (h : l.head? ≠ some 45) : neg l = false := by
  unfold neg; split
  · simp at h
  · rfl
theorem neg_cons {l : List UInt8} (h : neg l = true) : l = 45 :: body l := by
  unfold neg at h; split at h
  · rfl
  · cases h
theorem body_neg {l : List UInt8} (h : neg l = false) : body l = l := by
  unfold neg at h; split at h
  · cases h
  · next hh => unfold body; split
               · exact absurd rfl (hh _)
               · rfl
theorem isInt_num {l : List UInt8} (h : isInt l = true) : isNum (body l) = true := by
  simp only [isInt, Bool.and_eq_true] at h; exact h.1
theorem isInt_neg0 {l : List UInt8} (h : isInt l = true) (hn : neg l = true) : body l ≠ [48] := by
  simp only [isInt, Bool.and_eq_true, hn, Bool.true_and, Bool.not_eq_true', decide_eq_false_iff_not] at h; exact h.2
theorem valZ_natAbs (l : List UInt8) : (valZ l).natAbs = valN (body l) := by unfold valZ; split <;> simp
theorem valZ_neg {l : List UInt8} (h : isInt l = true) : decide (valZ l < 0) = neg l := by
  unfold valZ
  cases hn : neg l with
  | true =>
    have := valN_pos (isInt_num h) (isInt_neg0 h hn)
    simp; omega
  | false => simp
theorem fits_val {l : List UInt8} (h : isInt l = true) : fits (valZ l) = true := by
  simp only [fits, valZ_natAbs, decide_eq_true_eq]; exact valN_lt (isInt_num h)
theorem showI_valZ {l : List UInt8} (h : isInt l = true) : showI (valZ l) = l := by
  have hn := valZ_neg h
  unfold showI
  rw [valZ_natAbs, showN_valN (isInt_num h)]
  cases hg : neg l with
  | true =>
    rw [hg, decide_eq_true_eq] at hn
    rw [if_pos hn, ← neg_cons hg]
  | false =>
    rw [hg, decide_eq_false_iff_not] at hn
    rw [if_neg hn, body_neg hg]
theorem body_showI (n : Int) : body (showI n) = showN n.natAbs := by
  unfold showI
  split
  · rfl
  · exact body_of (showN_head _)
theorem neg_showI (n : Int) : neg (showI n) = decide (n < 0) := by
  unfold showI
  split
  · next h => simp [neg, h]
  · next h => rw [neg_of (showN_head _)]; simp [h]
theorem valZ_showI (n : Int) : valZ (showI n) = n := by
  unfold valZ
  rw [neg_showI, body_showI, valN_showN]
  by_cases h : n < 0
  · simp [h]; omega
  · simp [h]; omega
theorem isInt_showI {n : Int} (h : fits n = true) : isInt (showI n) = true := by
  have h1 : n.natAbs < 10 ^ 200 := of_decide_eq_true h
  unfold isInt
  rw [body_showI, neg_showI, isNum_showN h1, Bool.true_and, Bool.not_eq_true', Bool.and_eq_false_iff]
  by_cases hn : n < 0
  · right
    rw [decide_eq_false_iff_not]
    intro e
    have := showN_inj (a := n.natAbs) (b := 0) (by rw [e]; decide)
    omega
  · left; simp [hn]
theorem valZ_inj {a b : List UInt8} (ha : isInt a = true) (hb : isInt b = true) (h : valZ a = valZ b) : a = b := by
  rw [← showI_valZ ha, h, showI_valZ hb]
theorem showI_inj {a b : Int} (h : showI a = showI b) : a = b := by rw [← valZ_showI a, h, valZ_showI]
theorem isInt_zero : isInt [48] = true := by decide
theorem valZ_zero : valZ [48] = 0 := by decide
theorem valZ_eq_zero {l : List UInt8} (h : isInt l = true) : valZ l = 0 ↔ l = [48] :=
  ⟨fun e => valZ_inj h isInt_zero (e.trans valZ_zero.symm), fun e => by rw [e, valZ_zero]⟩
def outI (n : Int) : Option (List UInt8) := if fits n then some (showI n) else none
def addI (a b : List UInt8) : Option (List UInt8) := if isInt a && isInt b then outI (valZ a + valZ b) else none
def subI (a b : List UInt8) : Option (List UInt8) := if isInt a && isInt b then outI (valZ a - valZ b) else none
def mulI (a b : List UInt8) : Option (List UInt8) := if isInt a && isInt b then outI (valZ a * valZ b) else none
def divI (a b : List UInt8) : Option (List UInt8 × List UInt8) := if isInt a && isInt b && decide (b ≠ [48]) then (outI (valZ a / valZ b)).map fun q => (q, showI (valZ a % valZ b)) else none
def gcdI (a b : List UInt8) : Option (List UInt8) := if isInt a && isInt b then outI ((Int.gcd (valZ a) (valZ b) : Nat) : Int) else none
def cmpS (a b : List UInt8) : Int := if isInt a && isInt b then cmpI (valZ a) (valZ b) else 0
end Go.Eng
set_option linter.all false
namespace Go.Eng
abbrev R := List UInt8 × List UInt8
def okR (a : R) : Bool := isInt a.1 && isInt a.2 && !decide (cmpS a.2 [48] ≤ 0) && decide (gcdI a.1 a.2 = some [49])
def redN (n d : Int) : Int := (if d < 0 then -n else n) / ((Int.gcd n d : Nat) : Int)
def redD (n d : Int) : Int := (if d < 0 then -d else d) / ((Int.gcd n d : Nat) : Int)
def makeR (n d : Int) : Option R := if d = 0 then none else some (showI (redN n d), showI (redD n d))
def bothF (n d : Int) : Option R := if fits n && fits d then makeR n d else none
def mulR (a b : R) : Option R := if okR a && okR b then bothF (valZ a.1 * valZ b.1) (valZ a.2 * valZ b.2) else none
def divR (a b : R) : Option R := if okR a && okR b then bothF (valZ a.1 * valZ b.2) (valZ a.2 * valZ b.1) else none
def addR (a b : R) : Option R := if okR a && okR b then (if fits (valZ a.1 * valZ b.2) && fits (valZ b.1 * valZ a.2) then bothF (valZ a.1 * valZ b.2 + valZ b.1 * valZ a.2) (valZ a.2 * valZ b.2) else none) else none
def subR (a b : R) : Option R := if okR a && okR b then (if fits (valZ a.1 * valZ b.2) && fits (valZ b.1 * valZ a.2) then bothF (valZ a.1 * valZ b.2 - valZ b.1 * valZ a.2) (valZ a.2 * valZ b.2) else none) else none
def rN (o : Option R) : List UInt8 := (o.map (·.1)).getD []
def rD (o : Option R) : List UInt8 := (o.map (·.2)).getD []
def rER (o : Option R) : Int := if o.isSome then 0 else 40
end Go.Eng
