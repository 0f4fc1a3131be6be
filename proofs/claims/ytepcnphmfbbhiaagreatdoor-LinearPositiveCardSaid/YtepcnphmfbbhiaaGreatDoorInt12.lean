/- Part of the proof that all functions of the layer agree with the reference implementation. -/
import Derived.Test.YtepcnphmfbbhiaaGreatDoorInt11
import Derived.Lib.OthersKept
import Derived.Test.YtepcnphmfbbhiaaGreatDoorEngH
set_option linter.all false
set_option linter.all false
namespace Go.Proofs.YtepcnphmfbbhiaaGreatDoor
open Go Go.Eng Go.RowKit
attribute [local irreducible] wpListIn Code.wpIn Oper.wpIn Exit.then Exit.inBlock Exit.noGoto
set_option maxHeartbeats 40000000
def Bld (w : World) (b : Nat) (l : List UInt8) : Prop := Lib.IsBuilderF 146 5 b b (Lib.byteCells l) w
theorem atF_of {b : Nat} {p : Value} {bs : List Value} {w w' : World} (hk : ∀ (k : Nat) (c : Array Value) (t : TypeId) (fz : Nat × Nat), w.heap[k]? = some (Obj.cells c t fz) → w'.heap[k]? = w.heap[k]?) (h : Lib.BuilderAtF 146 5 b b p bs w) : Lib.BuilderAtF 146 5 b b p bs w' := by
  obtain ⟨hB, v, hb, ⟨hl, hv | ⟨g, cap, cur, fz, rfl, hg, hh, r⟩⟩, hne⟩ := h
  · exact ⟨hB, v, (hk _ _ _ _ hb).trans hb, ⟨hl, .inl hv⟩, hne⟩
  · exact ⟨hB, _, (hk _ _ _ _ hb).trans hb, ⟨hl, .inr ⟨g, cap, cur, fz, rfl, hg, (hk _ _ _ _ hh).trans hh, r⟩⟩, hne⟩
theorem Bld.of {w w' : World} {b : Nat} {l : List UInt8} (hk : ∀ (k : Nat) (c : Array Value) (t : TypeId) (fz : Nat × Nat), w.heap[k]? = some (Obj.cells c t fz) → w'.heap[k]? = w.heap[k]?) (h : Bld w b l) : Bld w' b l :=
  h.elim (fun x => .inl (atF_of hk x)) (fun x => .inr (atF_of hk x))
theorem Bld.ext {w w' : World} {b : Nat} {l : List UInt8} (k : Ext w w') (h : Bld w b l) : Bld w' b l := Bld.of (h := h) (fun i _ _ _ hi => k.block i (Array.getElem?_eq_some_iff.1 hi).1)
theorem Bld.cel {W W' : World} {row : Option Nat} {B b : Nat} {l : List UInt8} (hg : W.grownBy W' row) (hr : ∀ r, row = some r → B ≤ r ∧ ∃ o : Obj, W.heap[r]? = some o ∧ o.isCells = false) (h : Bld W b l) : Bld W' b l :=
  Bld.of (h := h) (fun i _ _ _ hi => grownBy_keeps_cells hg (fun r e => (hr r e).2) hi rfl)
theorem Bld.start {w : World} {b : Nat} (h : Blk w b 146 #[.pointer none, .slice none 0 0]) : Bld w b [] :=
  .inl ⟨Nat.le_refl _, _, h, World.ownsRowF_of own_nil, by simp [Value.ownBlock]⟩
theorem Bld.cells {w : World} {b : Nat} {l : List UInt8} (h : Bld w b l) : ∃ (c : Array Value) (t : TypeId) (fz : Nat × Nat), w.heap[b]? = some (Obj.cells c t fz) := by
  rcases h with h | h <;> (obtain ⟨_, v, hb, _⟩ := h; exact ⟨_, _, _, hb⟩)
theorem Bld.lt {w : World} {b : Nat} {l : List UInt8} (h : Bld w b l) : b < w.heap.size := by
  obtain ⟨_, _, _, hb⟩ := h.cells
  exact (Array.getElem?_eq_some_iff.1 hb).1
structure KB (b : Nat) (W W' : World) : Prop where
  oth : Lib.OthersKept 5 (some b) W W'
  low : Below b W W'
theorem KB.refl (b : Nat) (W : World) : KB b W W := ⟨Lib.OthersKept.refl _ _ _, Below.refl _ _⟩
theorem KB.ext {b : Nat} {W A B : World} (hb : b ≤ A.heap.size) (h : KB b W A) (k : Ext A B) : KB b W B :=
  ⟨h.oth.trans (fun i o hi _ _ => (k.block i (Array.getElem?_eq_some_iff.1 hi).1).trans hi), Below.trans h.low (Below.mono k hb)⟩
theorem KB.wr {b : Nat} {W A B : World} (h : KB b W A) (k : KB b A B) : KB b W B := ⟨h.oth.trans k.oth, Below.trans h.low k.low⟩
theorem KB.others {b : Nat} {l : List UInt8} {W W' : World} (h : KB b W W') (hb : Bld W b l) : KeepsOthers W W' := by
  refine ⟨h.low.size, fun k o hk ho => h.oth k o hk ?_ ?_⟩
  · intro e
    cases e
    obtain ⟨c, t, fz, hc⟩ := hb.cells
    rw [hc] at hk; cases hk; cases ho
  · intro c fz e; subst e; cases ho
theorem KB.blk {b c : Nat} {t : TypeId} {cs : Array Value} {W W' : World} (h : KB b W W') (hn : c ≠ b) (ht : t ≠ 5) (hb : Blk W c t cs) : Blk W' c t cs :=
  h.oth c _ hb (fun e => hn (by cases e; rfl)) (fun _ _ e => ht (by cases e; rfl))
theorem KB.rw {b lo : Nat} {A : Option Addr} {cs : List Value} {W W' : World} (h : KB b W W') (hA : ∀ ad, A = some ad → ad.block < b) (hr : Rw W lo A cs) : Rw W' lo A cs := by
  refine ⟨fun j u hu => ?_, hr.lo, fun ad e => Nat.lt_of_lt_of_le (hr.hi ad e) h.low.size⟩
  obtain ⟨c, o, e, hc⟩ := hr.cells j u hu
  exact ⟨c, o, e, (World.cell?_of_block (h.low.block c (hA _ e))).trans hc⟩
theorem KB.dfr {b D : Nat} {l : List UInt8} {W W' : World} (h : KB b W W') (hb : Bld W b l) (hD : Dfr W D) : Dfr W' D :=
  h.oth D _ hD (fun e => by
    cases e
    obtain ⟨c, t, fz, hc⟩ := hb.cells
    unfold Dfr at hD; rw [hc] at hD; cases hD) (fun _ _ e => by cases e)
theorem write_ok {b : Nat} {l s : List UInt8} {w : World} (h : Bld w b l) (hl : l.length + s.length ≤ 1000000) :
    Calls Tryz.prog 124 #[.pointer (some ⟨b, 0, none⟩), S s] w (RetA fun v w' => v = .tuple #[.int .i64 ((s.length : Nat) : Int), .nilIface] ∧ Bld w' b (l ++ s) ∧ KB b w w') :=
  reta_of (Any.Builder_WriteString_k { Tryz.lays105 with } Tryz.Builder_Extra_105 b b (Lib.byteCells l) ⟨s.toArray⟩ w h (by rw [Lib.byteCells_length, size_S]; omega) (Nat.le_of_lt h.lt)) (by
    rintro e w' ⟨rfl, h1, h2, h3⟩
    refine ⟨_, rfl, by rw [size_S], ?_, h3, h2⟩
    have : Lib.byteCells (l ++ s) = Lib.byteCells l ++ Lib.strCells ⟨s.toArray⟩ := by simp [Lib.byteCells, Lib.strCells]
    unfold Bld
    rw [this]
    exact .inr h1)
theorem string_ok {b : Nat} {l : List UInt8} {w : World} (h : Bld w b l) :
    Calls Tryz.prog 125 #[.pointer (some ⟨b, 0, none⟩)] w (RetA fun v w' => v = S l ∧ Bld w' b l ∧ KB b w w') :=
  reta_of (Tryz.Builder_String_any_k b b l w h (Nat.le_of_lt h.lt)) (by
    rintro e w' ⟨rfl, h1, h2, h3⟩
    exact ⟨_, rfl, rfl, h1, h3, h2⟩)
def P4 (g : Nat) : List Nat := toB 10 g ++ List.replicate (4 - (toB 10 g).length) 0
def D4 : List Nat → List Nat
  | [] => []
  | [g] => toB 10 g
  | g :: rest => P4 g ++ D4 rest
theorem D4_cc (g g2 : Nat) (r : List Nat) : D4 (g :: g2 :: r) = P4 g ++ D4 (g2 :: r) := rfl
theorem D4_cne (g : Nat) {r : List Nat} (h : r ≠ []) : D4 (g :: r) = P4 g ++ D4 r := by
  cases r with
  | nil => exact absurd rfl h
  | cons a b => rfl
theorem len4 {g : Nat} (h : g < 10000) : (toB 10 g).length ≤ 4 := (length_toB_le_iff 10 om g 4).2 h
theorem P4_len {g : Nat} (h : g < 10000) : (P4 g).length = 4 := by have := len4 h; simp [P4]; omega
theorem ofB_zeros : ∀ k, ofB 10 (List.replicate k 0) = 0
  | 0 => rfl
  | k + 1 => by simp [List.replicate_succ, ofB, ofB_zeros k]
theorem P4_val (g : Nat) : ofB 10 (P4 g) = g := by rw [P4, ofB_append, ofB_zeros, ofB_toB 10 om]; simp
theorem P4_lt (g : Nat) : ∀ d ∈ P4 g, d < 10 := by
  intro d hd
  rcases List.mem_append.1 hd with h | h
  · exact toB_lt 10 om g d h
  · rw [(List.mem_replicate.1 h).2]; omega
theorem D4_lt : ∀ X : List Nat, ∀ d ∈ D4 X, d < 10
  | [], d, h => by simp [D4] at h
  | [g], d, h => toB_lt 10 om g d h
  | g :: g2 :: r, d, h => by
    rw [D4_cc] at h
    rcases List.mem_append.1 h with h | h
    · exact P4_lt g d h
    · exact D4_lt (g2 :: r) d h
theorem D4_val : ∀ X : List Nat, (∀ g ∈ X, g < 10000) → ofB 10 (D4 X) = ofB 10000 X
  | [], _ => rfl
  | [g], _ => by simp [D4, ofB, ofB_toB 10 (show 2 ≤ 10 by omega)]
  | g :: g2 :: r, h => by
    rw [D4_cc, ofB_append, P4_val, P4_len (h g (by simp)), D4_val (g2 :: r) (fun x hx => h x (by simp at hx ⊢; right; exact hx))]
    simp [ofB]
theorem D4_last : ∀ X : List Nat, X ≠ [] → X.getLast? ≠ some 0 → (∀ g ∈ X, g < 10000) → (D4 X) ≠ [] ∧ (D4 X).getLast? ≠ some 0
  | [], h, _, _ => absurd rfl h
  | [g], _, h, _ => by
    have hg : g ≠ 0 := by intro e; subst e; simp at h
    exact ⟨toB_ten_ne hg, getLast_toB 10 om g⟩
  | g :: g2 :: r, _, h, hl => by
    have ih := D4_last (g2 :: r) (by simp) (by simpa using h) (fun x hx => hl x (by simp at hx ⊢; right; exact hx))
    rw [D4_cc]
    refine ⟨by simp [ih.1], ?_⟩
    rw [List.getLast?_append]
    cases hq : (D4 (g2 :: r)).getLast? with
    | none => exact absurd (List.getLast?_eq_none_iff.1 hq) ih.1
    | some y => simpa [hq] using ih.2
theorem D4_all (a : Nat) : D4 (toB 10000 a) = toB 10 a := by
  by_cases h0 : toB 10000 a = []
  · have : a = 0 := toB_nil (B := 10000) om (by rw [h0]; rfl)
    subst this; rfl
  · have hlt := toB_lt 10000 om a
    have h1 := D4_last (toB 10000 a) h0 (getLast_toB 10000 om a) hlt
    have h2 : Canon 10 (D4 (toB 10000 a)) := ⟨D4_lt _, h1.2⟩
    rw [canon_eq om h2, D4_val _ hlt, ofB_toB 10000 om]
theorem showD_append (a b : List Nat) : showD (a ++ b) = showD b ++ showD a := by simp [showD]
theorem decDigits_showN (u : Nat) : Lib.decDigits u = showN u := by
  induction u using Nat.strongRecOn with
  | _ u ih =>
    by_cases h : u < 10
    · rw [Lib.decDigits_one h]
      unfold showN
      split
      · next h0 => subst h0; rfl
      · next h0 =>
        rw [toB_pos 10 u om om, show u / 10 = 0 by omega, toB_zero, Nat.mod_eq_of_lt h]; rfl
    · rw [Lib.decDigits, dif_neg h, ih (u / 10) om]
      unfold showN
      rw [if_neg om, if_neg om]
      conv => rhs; rw [toB_pos 10 u om om]
      simp [showD]
theorem itoa_nat (g : Nat) : Lib.itoa (g : Int) = showN g := by
  rw [Lib.itoa, if_neg om, Int.toNat_natCast, decDigits_showN]
theorem showN_len {g : Nat} (h : g < 10000) : 0 < (showN g).length ∧ (showN g).length ≤ 4 := by
  unfold showN; split
  · simp
  · next h0 =>
    rw [showD_length]
    exact ⟨List.length_pos_iff.2 (toB_ten_ne h0), len4 h⟩
theorem repeat_zero (k : Nat) : Lib.repeatL [48] k = showD (List.replicate k 0) := by
  induction k with
  | zero => rfl
  | succ k ih => rw [Lib.repeatL, ih, List.replicate_succ']; simp [showD]
theorem pad4 {g : Nat} (h : g < 10000) : Lib.repeatL [48] (4 - (showN g).length) ++ showN g = showD (P4 g) := by
  by_cases h0 : g = 0
  · subst h0; rfl
  · have e : showN g = showD (toB 10 g) := by unfold showN; rw [if_neg h0]
    rw [e, showD_length, P4, showD_append, repeat_zero]
theorem drop_at {X : List Nat} {x : Nat} (h : x < X.length) : X.drop x = X.getD x 0 :: X.drop (x + 1) := by
  rw [List.drop_eq_getElem_cons h]; simp [h]
theorem text_step {X : List Nat} {x n k : Nat} (hn : X.length = n) (hx : x < n) (hk : x + 1 = k) (hlt : ∀ g ∈ X, g < 10000) (h0 : X.getLast? ≠ some 0) :
    showD (D4 (X.drop k)) ++ (if x + 1 < n then Lib.repeatL [48] (4 - (showN (X.getD x 0)).length) ++ showN (X.getD x 0) else showN (X.getD x 0)) = showD (D4 (X.drop x)) := by
  subst hk
  have hgl : X.getD x 0 < 10000 := getD_lt hlt x
  have hdx : X.drop x = X.getD x 0 :: X.drop (x + 1) := drop_at om
  rw [hdx]
  by_cases hc : x + 1 < n
  · rw [if_pos hc, pad4 hgl]
    have : X.drop (x + 1) = X.getD (x + 1) 0 :: X.drop (x + 1 + 1) := drop_at om
    rw [D4_cne _ (by rw [this]; simp), showD_append]
  · rw [if_neg hc]
    have hnil : X.drop (x + 1) = [] := List.drop_eq_nil_of_le om
    rw [hnil]
    have hg : X.getD x 0 ≠ 0 := by
      intro e
      apply h0
      rw [List.getLast?_eq_getElem?, show X.length - 1 = x by omega]
      have h9 : X[x]? = some X[x] := List.getElem?_eq_getElem om
      rw [List.getD, h9] at e
      rw [h9]; exact congrArg some e
    simp only [D4]
    unfold showN
    rw [if_neg hg]
    simp [showD]
def rS (o : Option (List UInt8)) : List UInt8 := o.getD []
def rE (o : Option (List UInt8)) : Int := if o.isSome then 0 else 30
def resI (o : Option (List UInt8)) : Value := .tuple #[S (rS o), .int .i64 (rE o)]
theorem natAbs_sgn (ng : Bool) (a : Nat) : (sgn ng a).natAbs = a := by unfold sgn; split <;> simp
theorem sgn_neg (ng : Bool) {a : Nat} (h : 0 < a) : (sgn ng a < 0) ↔ ng = true := by
  unfold sgn; cases ng <;> simp; omega
theorem showI_sgn (ng : Bool) {a : Nat} (h : 0 < a) : showI (sgn ng a) = if ng then 45 :: showN a else showN a := by
  unfold showI
  rw [natAbs_sgn]
  by_cases hn : ng = true
  · rw [if_pos ((sgn_neg ng h).2 hn), if_pos hn]
  · rw [if_neg (fun hc => hn ((sgn_neg ng h).1 hc)), if_neg hn]
theorem fits_sgn (ng : Bool) {a : Nat} (h : 0 < a) : fits (sgn ng a) = decide ((showN a).length ≤ 200) := by
  unfold fits
  rw [natAbs_sgn]
  unfold showN
  rw [if_neg om, showD_length, decide_eq_decide]
  exact (length_toB_le_iff 10 om a 200).symm
theorem out_zero (ng : Bool) : Value.tuple #[S [48], .int .i64 0] = resI (outI (sgn ng 0)) := by cases ng <;> rfl
theorem out_big (ng : Bool) {a : Nat} (h : 0 < a) (hl : (200 : Int) < (((showN a).length : Nat) : Int)) : Value.tuple #[S [], .int .i64 30] = resI (outI (sgn ng a)) := by
  unfold outI
  rw [fits_sgn ng h, decide_eq_false om]; rfl
theorem out_neg {ng : Bool} {a : Nat} (h : 0 < a) (hl : ¬ (200 : Int) < (((showN a).length : Nat) : Int)) (hn : ng = true) : Value.tuple #[S ([45] ++ showN a), .int .i64 0] = resI (outI (sgn ng a)) := by
  unfold outI
  rw [fits_sgn ng h, decide_eq_true om, if_pos rfl, showI_sgn ng h, if_pos hn]; rfl
theorem out_pos {ng : Bool} {a : Nat} (h : 0 < a) (hl : ¬ (200 : Int) < (((showN a).length : Nat) : Int)) (hn : ng = false) : Value.tuple #[S (showN a), .int .i64 0] = resI (outI (sgn ng a)) := by
  unfold outI
  rw [fits_sgn ng h, decide_eq_true om, if_pos rfl, showI_sgn ng h, if_neg (by simp [hn])]; rfl
def grp (X : List Nat) (n i : Nat) : List UInt8 := if i + 1 < n then Lib.repeatL [48] (4 - (showN (X.getD i 0)).length) ++ showN (X.getD i 0) else showN (X.getD i 0)
def tx (X : List Nat) (n : Nat) (pre : List Nat) : List UInt8 := pre.flatMap (grp X n)
theorem tx_snoc (X : List Nat) (n : Nat) (pre : List Nat) (x : Nat) : tx X n (pre ++ [x]) = tx X n pre ++ grp X n x := by simp [tx]
theorem grp_pos {X : List Nat} {n i : Nat} (h : i + 1 < n) : grp X n i = Lib.repeatL [48] (4 - (showN (X.getD i 0)).length) ++ showN (X.getD i 0) := if_pos h
theorem grp_neg {X : List Nat} {n i : Nat} (h : ¬ i + 1 < n) : grp X n i = showN (X.getD i 0) := if_neg h
theorem grp_len {X : List Nat} (hX : ∀ g ∈ X, g < 10000) (n i : Nat) : (grp X n i).length ≤ 4 := by
  have h1 := getD_lt hX i
  have h2 := showN_len h1
  unfold grp; split
  · rw [pad4 h1, showD_length, P4_len h1]; omega
  · exact h2.2
theorem tx_len {X : List Nat} (hX : ∀ g ∈ X, g < 10000) (n : Nat) : ∀ pre : List Nat, (tx X n pre).length ≤ 4 * pre.length
  | [] => by simp [tx]
  | i :: l => by
    have ih := tx_len hX n l
    have := grp_len hX n i
    simp only [tx, List.flatMap_cons, List.length_append, List.length_cons] at ih ⊢
    omega
theorem tx_gen {X : List Nat} {n : Nat} (hn : X.length = n) (hlt : ∀ g ∈ X, g < 10000) (h0 : X.getLast? ≠ some 0) : ∀ j, j ≤ n → showD (D4 (X.drop j)) ++ tx X n (List.range j).reverse = showD (D4 X)
  | 0, _ => by simp [tx]
  | j + 1, h => by
    have e : (List.range (j + 1)).reverse = j :: (List.range j).reverse := by simp [List.range_succ]
    rw [e]
    show _ ++ (grp X n j ++ tx X n _) = _
    rw [← List.append_assoc]
    have := text_step (X := X) (x := j) (n := n) (k := j + 1) hn om rfl hlt h0
    unfold grp
    rw [this]
    exact tx_gen hn hlt h0 j om
theorem tx_all {a n : Nat} (hn : (toB 10000 a).length = n) (h0 : 0 < a) : tx (toB 10000 a) n (List.range n).reverse = showN a := by
  have h := tx_gen hn (toB_lt 10000 om a) (getLast_toB 10000 om a) n (Nat.le_refl _)
  rw [List.drop_eq_nil_of_le om, D4_all] at h
  have h2 : showD (D4 []) = [] := rfl
  rw [h2, List.nil_append] at h
  rw [h]; unfold showN; rw [if_neg om]
set_option maxRecDepth 100000 in
theorem stext_ok {A1 : Option Addr} {n1 c1 a lo1 : Nat} {w : World} (h1 : Num w lo1 A1 n1 c1 a) (s1 : n1 ≤ 9000) (ht : Tb w) {ng : Bool} :
    Calls Tryz.prog 96 #[.agg #[.bool (ng), .slice (A1) (n1) (c1)]] w (Ret w fun v w' => v = resI (outI (sgn ng a))) := by
 have uh1 := h1.hi;refine f_inM Tryz.func96 rfl ?_;refine go ?_;refine bx (fun fd fx e8 => ?_);have fc := fx.2;refine go ?_;by_cases fo : (n1 : Int) = 0;have hz0 : a = 0 := toB_nil (B := 10000) om (h1.len.trans om);refine go ?_;refine f_outM0 (v := .tuple #[S ([48]), .int .i64 (0)]) (res2 (r1 := .tmp 2) (r2 := .tmp 3) rfl ?_ ?_) fc (by first | exact out_big _ ha0 (by assumption) | exact out_neg ha0 (by assumption) (by assumption) | exact out_pos ha0 (by assumption) (by assumption) | (rw [hz0]; exact out_zero _));exact res_tmp (t := 2) (by exact rfl) _;exact res_tmp (t := 3) (by exact rfl) _;have ha0 : 0 < a := toB_ne (B := 10000) om (by rw [h1.len]; omega);refine go ?_;refine al inf157 (fun fp fq fk => ?_);have e8 := be fq.2 e8;have fc := xt fc fq.2;refine go ?_;refine cl en122 (backward_ok (A := A1) (n := n1) (c := c1)) ?_;rintro f6 fu fl ⟨rfl, fy⟩;have e8 := be fl.2 e8;have fk := be fl.2 fk;have fc := xt fc fl.2;refine go ?_;have hbl := Bld.start fk;have hblt := hbl.lt;refine c_range (m := n1) (enc := fun x => [.int .i64 x, .int .i64 ((((toB 10000 a).getD x 0 : Nat) : Int))]) (order := (List.range n1).reverse) (Kq := fun W => Blk W (fp.heap.size) 115 #[.slice A1 n1 c1] ∧ Rw W lo1 A1 (ints (toB 10000 a))) (gf := 144) (lb := [.pointer (some ⟨fp.heap.size, 0, none⟩)]) (ps := [16, 17]) rfl en139 (backward_iter fy (h1.row.ext fc) h1.len om) (fun W W' row hq hg hr => ⟨Blk.cel hg hr hq.1, Rw.cel hg hr hq.2⟩) (fun _ => rfl) [5, 6] (fun x => [.int .i64 x, .int .i64 ((((toB 10000 a).getD x 0 : Nat) : Int))]) ?asn (fun pre W => (fu.heap.size ≤ W.heap.size) ∧ (Ext w W) ∧ (Blk W (w.heap.size) 117 #[.bool (ng), .slice (A1) (n1) (c1)]) ∧ (Bld W (fd.heap.size) (tx (toB 10000 a) n1 (pre)))) (fun _ _ _ => False) ?hI ?hIx ?h0 ?body ?done ?stop
 case asn =>
  intro l x W K hK;refine go ?_;exact hK
 case hI =>
  rintro pre W W' row ⟨zwl, E, e8, hbl⟩ hg hr;exact ⟨Nat.le_trans zwl hg.size, low_cel (B := fu.heap.size) om hg hr (bz E) E, Blk.cel hg hr e8, Bld.cel hg hr hbl⟩
 case hIx =>
  exact fun _ _ _ _ _ h => h.elim
 case h0 =>
  exact ⟨Nat.le_refl _, fc, e8, hbl⟩
 case body =>
  rintro l pre x W ⟨zwl, E, e8, hbl⟩ hpre hx hlen;have Kp := KB.refl (fd.heap.size) W;have zW := bz E;have hgd := getD_lt h1.lt x;have hsl := showN_len hgd;have hbl0 := hbl;have hbW := hbl.lt;have hDl := tx_len h1.lt n1 pre;refine go ?_;refine clb en131 (hc := itoa_ok _ _ om om (ht.ext E)) (hk := ?_);rintro f7 f8 fe rfl;have e8 := be fe.2 e8;have hbl := Bld.ext fe.2 hbl;have E := xt E fe.2;have Kp := KB.ext om Kp fe.2;rw [itoa_nat];refine go ?_;refine sui ?_;refine go ?_;by_cases fv : (x : Int) < ((n1 : Int) - 1);refine go ?_;refine l_op (k_lenL (l := showN ((toB 10000 a).getD x 0)) U9 rfl ?_);refine l_op (k_sub (a := 4) (b := (((showN ((toB 10000 a).getD x 0)).length : Nat) : Int)) (c := ((4 - (showN ((toB 10000 a).getD x 0)).length : Nat) : Int)) rfl rfl (by unfold In64; omega) om ?_);refine clb en132 (hc := repeat_ok [48] (4 - (showN ((toB 10000 a).getD x 0)).length) _ om (by simp)) (hk := ?_);rintro f9 gc fg rfl;have e8 := be fg.2 e8;have hbl := Bld.ext fg.2 hbl;have E := xt E fg.2;have Kp := KB.ext om Kp fg.2;refine go ?_;refine l_op (k_addS (a := Lib.repeatL [48] (4 - (showN ((toB 10000 a).getD x 0)).length)) (b := showN ((toB 10000 a).getD x 0)) rfl rfl (by rw [← List.length_append, pad4 hgd, showD_length, P4_len hgd]; omega) ?_);refine go ?_;have hwl : ((Lib.repeatL [48] (4 - (showN ((toB 10000 a).getD x 0)).length)) ++ (showN ((toB 10000 a).getD x 0))).length ≤ 8 := by rw [pad4 hgd, showD_length, P4_len hgd]; omega
  refine l_op (k_callA (vs := [.pointer (some ⟨fd.heap.size, 0, none⟩), S ((Lib.repeatL [48] (4 - (showN ((toB 10000 a).getD x 0)).length)) ++ (showN ((toB 10000 a).getD x 0)))]) en133 rfl (write_ok hbl om) ?_);rintro gd gg ⟨rfl, hbl2, fh⟩;have e8 := KB.blk fh om dc e8;have E := Below.trans E (Below.mono fh.low om);have gh := fh.low.size;have Kp := KB.wr Kp fh;have hbl := hbl2;refine go ?_;exact ⟨Kp.others hbl0, fun hq => ⟨Kp.blk om dc hq.1, Kp.rw (fun ad e => by have := uh1 ad e; omega) hq.2⟩, ⟨om, E, e8, (by rw [tx_snoc, grp_pos om]; exact hbl)⟩⟩;refine go ?_;have hwl : (showN ((toB 10000 a).getD x 0)).length ≤ 8 := by omega
  refine l_op (k_callA (vs := [.pointer (some ⟨fd.heap.size, 0, none⟩), S (showN ((toB 10000 a).getD x 0))]) en133 rfl (write_ok hbl om) ?_);rintro gi gj ⟨rfl, hbl2, fi⟩;have e8 := KB.blk fi om dc e8;have E := Below.trans E (Below.mono fi.low om);have gk := fi.low.size;have Kp := KB.wr Kp fi;have hbl := hbl2;refine go ?_;exact ⟨Kp.others hbl0, fun hq => ⟨Kp.blk om dc hq.1, Kp.rw (fun ad e => by have := uh1 ad e; omega) hq.2⟩, ⟨om, E, e8, (by rw [tx_snoc, grp_neg om]; exact hbl)⟩⟩
 case stop =>
  exact fun _ _ _ _ _ _ h _ => h.elim
 case done =>
  rintro D W hD ⟨zwl, E, e8, hbl⟩ hK;have zW := bz E;refine go ?_;rw [tx_all h1.len ha0] at hbl;refine l_op (k_callA (vs := [.pointer (some ⟨fd.heap.size, 0, none⟩)]) en134 rfl (string_ok hbl) ?_);rintro gl gm ⟨rfl, hbl2, fj⟩;have e8 := KB.blk fj om dc e8;have hK := KB.dfr fj hbl hK;have E := Below.trans E (Below.mono fj.low om);have gn := fj.low.size;have hbl := hbl2;refine go ?_;refine l_op (k_lenL (l := showN a) U9 rfl ?_);refine go ?_;by_cases fw : 200 < (((showN a).length : Nat) : Int);refine go ?_;refine f_outM (v := .tuple #[S ([]), .int .i64 (30)]) hK (res2 (r1 := .tmp 2) (r2 := .tmp 3) rfl ?_ ?_) ((put_dfr _).low E om) (by first | exact out_big _ ha0 (by assumption) | exact out_neg ha0 (by assumption) (by assumption) | exact out_pos ha0 (by assumption) (by assumption) | (rw [hz0]; exact out_zero _));exact res_tmp (t := 2) (by exact rfl) _;exact res_tmp (t := 3) (by exact rfl) _;refine go ?_;rcases Bool.eq_false_or_eq_true (ng) with fm | fm;refine go ?_;refine l_op (k_addS (a := [45]) (b := showN a) rfl rfl (by simp; omega) ?_);refine go ?_;refine f_outM (v := .tuple #[S (([45]) ++ (showN a)), .int .i64 (0)]) hK (res2 (r1 := .tmp 2) (r2 := .tmp 3) rfl ?_ ?_) ((put_dfr _).low E om) (by first | exact out_big _ ha0 (by assumption) | exact out_neg ha0 (by assumption) (by assumption) | exact out_pos ha0 (by assumption) (by assumption) | (rw [hz0]; exact out_zero _));exact res_tmp (t := 2) (by exact rfl) _;exact res_tmp (t := 3) (by exact rfl) _
  refine go ?_;refine f_outM (v := .tuple #[S (showN a), .int .i64 (0)]) hK (res2 (r1 := .tmp 2) (r2 := .tmp 3) rfl ?_ ?_) ((put_dfr _).low E om) (by first | exact out_big _ ha0 (by assumption) | exact out_neg ha0 (by assumption) (by assumption) | exact out_pos ha0 (by assumption) (by assumption) | (rw [hz0]; exact out_zero _));exact res_tmp (t := 2) (by exact rfl) _;exact res_tmp (t := 3) (by exact rfl) _
end Go.Proofs.YtepcnphmfbbhiaaGreatDoor
