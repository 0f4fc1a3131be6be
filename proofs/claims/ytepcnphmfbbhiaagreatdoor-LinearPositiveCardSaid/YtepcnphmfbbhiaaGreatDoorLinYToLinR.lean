/- Part of the proof that all functions of the layer agree with the reference implementation. -/
import Derived.Test.YtepcnphmfbbhiaaGreatDoorLinVToLinX
import Derived.Test.YtepcnphmfbbhiaaGreatDoorLin2
import Derived.Test.YtepcnphmfbbhiaaGreatDoorLin5
import Derived.Lib.AppendZerosOnto
import Derived.Laws.CopyRow
set_option linter.all false
set_option linter.all false
namespace Go.Proofs.YtepcnphmfbbhiaaGreatDoor
open Go Go.Eng Go.RowKit
section
variable {W W' : World} {lo hi n b : Nat} {A : Option Addr} {H : Nat → Value} {L : Rows} {cs : List Value} {row : Option Nat}
theorem rwPutN (k : Put W W' b) (hne : ∀ ad, A = some ad → ad.block ≠ b) (h : Rw W lo A cs) : Rw W' lo A cs :=
  ⟨fun j u hu => by
    obtain ⟨c, o, hA, hc⟩ := h.cells j u hu
    exact ⟨c, o, hA, (k.cell (a := ⟨c, o + j, none⟩) (hne ⟨c, o, none⟩ hA)).trans hc⟩, h.lo, fun ad hA => by rw [k.size]; exact h.hi ad hA⟩
structure RwU (W : World) (lo hi : Nat) (A : Option Addr) (cs : List Value) : Prop where
  rw : Rw W lo A cs
  u : ∀ ad, A = some ad → ad.block < hi
theorem RwU.of (h : Rw W lo A cs) : RwU W lo W.heap.size A cs := ⟨h, h.hi⟩
theorem RwU.ext (k : Ext W W') (h : RwU W lo hi A cs) : RwU W' lo hi A cs := ⟨h.rw.ext k, h.u⟩
theorem RwU.put (k : Put W W' b) (hb : b < lo ∨ hi ≤ b) (h : RwU W lo hi A cs) : RwU W' lo hi A cs :=
  ⟨rwPutN k (fun ad e => by have h1 := h.rw.lo ad e; have h2 := h.u ad e; omega) h.rw, h.u⟩
theorem RwU.gr (k : W.grownBy W' row) (hb : ∀ g, row = some g → g < lo ∨ hi ≤ g) (h : RwU W lo hi A cs) : RwU W' lo hi A cs :=
  ⟨h.rw.gr k fun ad e e2 => by have h1 := h.rw.lo ad e; have h2 := h.u ad e; have h3 := hb _ e2.symm; omega, h.u⟩
structure MtU (W : World) (lo hi : Nat) (A : Option Addr) (n : Nat) (H : Nat → Value) (L : Rows) : Prop where
  mt : Mt W lo A n H L
  o : ∀ ad, A = some ad → ad.block < hi
  r : ∀ i, i < n → ∀ ad, sA (H i) = some ad → ad.block < hi
theorem MtU.of (h : Mt W lo A n H L) : MtU W lo W.heap.size A n H L := ⟨h, h.out.hi, fun i hi => (h.row i hi).hi⟩
theorem MtU.ext (k : Ext W W') (h : MtU W lo hi A n H L) : MtU W' lo hi A n H L := ⟨h.mt.ext k, h.o, h.r⟩
theorem MtU.put (k : Put W W' b) (hb : b < lo ∨ hi ≤ b) (h : MtU W lo hi A n H L) : MtU W' lo hi A n H L :=
  ⟨⟨(RwU.put k hb ⟨h.mt.out, h.o⟩).rw, h.mt.hdr, fun i hi' => (RwU.put k hb ⟨h.mt.row i hi', h.r i hi'⟩).rw, h.mt.cap⟩, h.o, h.r⟩
theorem MtU.gr (k : W.grownBy W' row) (hb : ∀ g, row = some g → g < lo ∨ hi ≤ g) (h : MtU W lo hi A n H L) : MtU W' lo hi A n H L :=
  ⟨⟨(RwU.gr k hb ⟨h.mt.out, h.o⟩).rw, h.mt.hdr, fun i hi' => (RwU.gr k hb ⟨h.mt.row i hi', h.r i hi'⟩).rw, h.mt.cap⟩, h.o, h.r⟩
theorem MtU.congr {L' : Rows} (h : MtU W lo hi A n H L) (hL : ∀ i, i < n → L i = L' i) : MtU W lo hi A n H L' := ⟨h.mt.congr hL, h.o, h.r⟩
theorem StR.get {s : El} {last v : Value} (h : StR lo n W s last v) : ∃ A C H P cp Q cq, v = .agg #[.slice A n C, .slice P s.piv.length cp, .slice Q s.cols.length cq, last] ∧ n ≤ C ∧ Mt W lo A n H s.L ∧ Rw W lo P (cellsR s.piv) ∧ Rw W lo Q (ints s.cols) := by
  obtain ⟨A, C, H, vp, vc, rfl, hcap, hM, ⟨hp, hp2⟩, ⟨hc, hc2⟩⟩ := h
  exact ⟨A, C, H, sA vp, sC vp, sA vc, sC vc, by rw [← hp, ← hc], hcap, hM, hp2, hc2⟩
theorem rw_intF {i : Nat} {l : List Nat} (h : Rw W lo A (ints l)) (hi : i < l.length) : A = some ⟨bkOf A, ofOf A, none⟩ ∧ W.cell? ⟨bkOf A, ofOf A + i, none⟩ = some (.int .i64 ((l.getD i 0 : Nat) : Int)) :=
  rw_at h (by simp [ints, List.getD, hi])
def intZ (l : List Int) : List Value := l.map (Value.int .i64)
theorem rw_intZ {i : Nat} {l : List Int} (h : Rw W lo A (intZ l)) (hi : i < l.length) : A = some ⟨bkOf A, ofOf A, none⟩ ∧ W.cell? ⟨bkOf A, ofOf A + i, none⟩ = some (.int .i64 (l.getD i 0)) :=
  rw_at h (by simp [intZ, List.getD, hi])
theorem own_ptr {base : Nat} {v : Value} {l : List R} {k : Nat} (h : W.ownsRow base 41 2 v l.length (cellsR l)) (hk : k < l.length) : sA v = some ⟨bkOf (sA v), ofOf (sA v), none⟩ := (rw_pairF (own_rw h) hk).1
theorem getD_lt {l : List Nat} {i m : Nat} (h : ∀ x ∈ l, x < m) (hi : i < l.length) : l.getD i 0 < m := by
  have : l.getD i 0 = l[i] := by simp [List.getD, hi]
  rw [this]; exact h _ (List.getElem_mem hi)
end
section
variable {r : Option Nat} {n N : Nat} {e : Nat → Value} {ds : List Deferred} {w : World} {Q : Exit → Act → World → Prop} {K : Act → World → Prop}
variable {ty : Nat} {pos : String} {af : Array Edge} {g : Option (Nat × Bool)} {v u : Value} {x y : Operand} {t : TypeId}
theorem k_storeO {base k : Nat} {l : List R} {q : R} (h : w.ownsRow base 41 2 v l.length (cellsR l)) (hk : k < l.length) (hs : (Tryz.prog.info? t).map (·.size) = some 2)
    (hx : ev N e x = .pointer (some ⟨bkOf (sA v), ofOf (sA v) + k * 2, none⟩)) (hy : ev N e y = .agg #[S q.1, S q.2])
    (hK : ∀ w', Put w w' (bkOf (sA v)) → base ≤ bkOf (sA v) → v.ownBlock = some (bkOf (sA v)) → w'.ownsRow base 41 2 v (l.set k q).length (cellsR (l.set k q)) → K (act N e ds) w') :
    Oper.wpIn (Fw r) n Tryz.prog ⟨none, .store t x y, ty, pos, af, g⟩ (act N e ds) w K Q := by
  obtain ⟨cur, hB, h0, hsz, hob, hnew⟩ := own_put2 (q := q) h rfl hk
  rw [h0, Nat.zero_add] at hx
  exact k_storeA (vs := [S q.1, S q.2]) (cs := cur) hs hx hy (by simp [S, Value.oneCell']) hB hsz (fun w' hp hB' => hK w' hp (own_ge h _ hob) hob (hnew w' hB'))
end
def besC (L : Rows) (b : List R) : Rows := fun i => L i ++ [rAt b i]
def besU (n : Nat) (L : Rows) : Rows := fun i => L i ++ uR i n
theorem rAt_appL {a b : List R} {k : Nat} (h : k < a.length) : rAt (a ++ b) k = rAt a k := by unfold rAt; simp [List.getD, List.getElem?_append_left h]
theorem rAt_appR {a b : List R} {k : Nat} (h : ¬ k < a.length) : rAt (a ++ b) k = rAt b (k - a.length) := by unfold rAt; simp [List.getD, List.getElem?_append_right (Nat.le_of_not_lt h)]
theorem besC_ok {n : Nat} {L : Rows} {b : List R} (h : VM n L) (hb : b.all okR = true) (hl : n = b.length) : OkL n ((L 0).length + 1) (besC L b) := fun i hi => by
  have h1 := h.ok i hi
  refine ⟨by unfold besC; simp [h1.1], fun k hk => ?_⟩
  unfold besC
  by_cases hk2 : k < (L i).length
  · rw [rAt_appL hk2]; exact h1.2 k (by omega)
  · rw [rAt_appR hk2, show k - (L i).length = 0 by omega]; exact all_rAt.1 hb i (by omega)
theorem uR_ok {i k j : Nat} (h : j < k) : okR (rAt (uR i k) j) = true := by
  rw [rAt_get (by rw [uR_len]; exact h)]
  simp only [uR, List.getElem_map, List.getElem_range]
  split
  · exact oko
  · exact okz
theorem besU_ok {n : Nat} {L : Rows} (h : VM n L) : OkL n ((L 0).length + n) (besU n L) := fun i hi => by
  have h1 := h.ok i hi
  refine ⟨by unfold besU; simp [h1.1, uR_len], fun k hk => ?_⟩
  unfold besU
  by_cases hk2 : k < (L i).length
  · rw [rAt_appL hk2]; exact h1.2 k (by omega)
  · rw [rAt_appR hk2]; exact uR_ok (by omega)
def solF (cols : List Nat) (L : Rows) (m : Nat) : Nat → Nat → List R → List R
  | 0, _, x => x
  | f + 1, i, x => solF cols L m f (i + 1) (x.set (cols.getD i 0) (rAt (L i) m))
theorem solF_step {cols : List Nat} {L : Rows} {m i n : Nat} {x T : List R} (h : i < n) (hT : solF cols L m (n - i) i x = T) : solF cols L m (n - (i + 1)) (i + 1) (x.set (cols.getD i 0) (rAt (L i) m)) = T := by
  rw [sub1 h] at hT; exact hT
theorem solF_end {cols : List Nat} {L : Rows} {m i n : Nat} {x T : List R} (h : ¬ i < n) (hT : solF cols L m (n - i) i x = T) : T = x := by rw [show n - i = 0 by omega] at hT; exact hT.symm
def zs (m : Nat) : List R := List.replicate m z0
def solE (n m : Nat) (s : El) : Option (List R × Bool) := if fstI (pz s.L s.piv.length m) (n - s.piv.length) 0 < n - s.piv.length then none else some (solF s.cols s.L m s.cols.length 0 (zs m), decide (s.piv.length = m))
def solS (n : Nat) (L : Rows) (b : List R) : Option (List R × Bool) := if vM n L = true ∧ b.all okR = true ∧ n = b.length then (elim n ((L 0).length + 1) (L 0).length (besC L b)).bind (solE n (L 0).length) else none
def invE (n : Nat) (s : El) : Option Rows := if s.piv.length < n then none else some fun i => (s.L i).drop n
def invS (n : Nat) (L : Rows) : Option Rows := if sqB n L = true then (elim n (n + n) n (besU n L)).bind (invE n) else none
def OutV (lo : Nat) (w : World) : Option (List R × Bool) → Value → Prop
  | none, v => v = .tuple #[.slice none 0 0, .bool false, .int .i64 130]
  | some (x, only), v => ∃ P cp, v = .tuple #[.slice P x.length cp, .bool only, .int .i64 0] ∧ Rw w lo P (cellsR x)
def posF (L : Rows) : Nat → Nat → Option Bool
  | 0, _ => some true
  | f + 1, k => match detS (k + 1) (fun i => (L i).take (k + 1)) with
    | none => none
    | some d => if sgnI (valZ d.1) ≤ 0 then some false else posF L f (k + 1)
def posS (n : Nat) (L : Rows) : Option Bool := if sqB n L = true then if Sym n L then posF L n 0 else some false else none
end Go.Proofs.YtepcnphmfbbhiaaGreatDoor
set_option linter.all false
namespace Go.Proofs.YtepcnphmfbbhiaaGreatDoor
open Go Go.Eng Go.RowKit
section
variable {P : Program} {r : Option Nat} {n N : Nat} {e : Nat → Value} {ds : List Deferred} {w : World} {Q : Exit → Act → World → Prop} {K : Act → World → Prop}
variable {d ty : Nat} {pos : String} {af : Array Edge} {g : Option (Nat × Bool)} {v u : Value} {x y : Operand} {t t' : TypeId}
theorem k_cap {A : Option Addr} {m c : Nat} {D : TypeId} (hu : P.underlying t = some (.slice D)) (hx : ev N e x = .slice A m c) (hk : K (act N (upd e d (.int .i64 c)) ds) w) :
    Oper.wpIn (Fw r) n P ⟨some d, .call { callee := .builtin .cap, args := #[x], argTypes := #[t] }, ty, pos, af, g⟩ (act N e ds) w K Q := by
  refine k_val (v := .int .i64 c) (w' := w) rfl ?_ (by rw [act_put]; exact hk)
  simp [execOp, resolve, invoke, builtin, Builtin.cap_, run_underlying hu, hx, goInt]
theorem and_small : ∀ m : Nat, m < 17 → (binOp .and t (.int .u64 (m : Int)) (.int .u64 4294967295)).run P w = .ok (.int .u64 (m : Int)) w := by
  intro m hm
  have : m = 0 ∨ m = 1 ∨ m = 2 ∨ m = 3 ∨ m = 4 ∨ m = 5 ∨ m = 6 ∨ m = 7 ∨ m = 8 ∨ m = 9 ∨ m = 10 ∨ m = 11 ∨ m = 12 ∨ m = 13 ∨ m = 14 ∨ m = 15 ∨ m = 16 := by omega
  rcases this with rfl | rfl | rfl | rfl | rfl | rfl | rfl | rfl | rfl | rfl | rfl | rfl | rfl | rfl | rfl | rfl | rfl <;> rfl
theorem shr_small : ∀ m : Nat, m < 17 → (binOp .shr t (.int .u64 (m : Int)) (.int .u64 32)).run P w = .ok (.int .u64 0) w := by
  intro m hm
  have : m = 0 ∨ m = 1 ∨ m = 2 ∨ m = 3 ∨ m = 4 ∨ m = 5 ∨ m = 6 ∨ m = 7 ∨ m = 8 ∨ m = 9 ∨ m = 10 ∨ m = 11 ∨ m = 12 ∨ m = 13 ∨ m = 14 ∨ m = 15 ∨ m = 16 := by omega
  rcases this with rfl | rfl | rfl | rfl | rfl | rfl | rfl | rfl | rfl | rfl | rfl | rfl | rfl | rfl | rfl | rfl | rfl <;> rfl
theorem k_and {m : Nat} (hx : ev N e x = .int .u64 (m : Int)) (hy : ev N e y = .int .u64 4294967295) (hm : m < 17) (hk : K (act N (upd e d (.int .u64 (m : Int))) ds) w) :
    Oper.wpIn (Fw r) n P ⟨some d, .binOp .and t x y t', ty, pos, af, g⟩ (act N e ds) w K Q := k_bin hx hy (guard_int ..) (and_small m hm) hk
theorem k_shr32 {m : Nat} (hx : ev N e x = .int .u64 (m : Int)) (hy : ev N e y = .int .u64 32) (hm : m < 17) (hk : K (act N (upd e d (.int .u64 0)) ds) w) :
    Oper.wpIn (Fw r) n P ⟨some d, .binOp .shr t x y t', ty, pos, af, g⟩ (act N e ds) w K Q := k_bin hx hy (guard_int ..) (shr_small m hm) hk
theorem k_mulU {a b c : Int} (hx : ev N e x = .int .u64 a) (hy : ev N e y = .int .u64 b) (hc : a * b = c) (hr : 0 ≤ c ∧ c ≤ 18446744073709551615) (hk : K (act N (upd e d (.int .u64 c)) ds) w) :
    Oper.wpIn (Fw r) n P ⟨some d, .binOp .mul t x y t', ty, pos, af, g⟩ (act N e ds) w K Q :=
  k_bin hx hy (guard_int ..) (by subst hc; simp [binOp, Op.intArith, wrap_u64 hr]) hk
theorem k_addU {a b c : Int} (hx : ev N e x = .int .u64 a) (hy : ev N e y = .int .u64 b) (hc : a + b = c) (hr : 0 ≤ c ∧ c ≤ 18446744073709551615) (hk : K (act N (upd e d (.int .u64 c)) ds) w) :
    Oper.wpIn (Fw r) n P ⟨some d, .binOp .add t x y t', ty, pos, af, g⟩ (act N e ds) w K Q :=
  k_bin hx hy (guard_int ..) (by subst hc; simp [binOp, Op.intArith, wrap_u64 hr]) hk
end
section
variable {r : Option Nat} {n N : Nat} {e : Nat → Value} {ds : List Deferred} {w : World} {Q : Exit → Act → World → Prop} {K : Act → World → Prop}
variable {d ty : Nat} {pos : String} {af : Array Edge} {g : Option (Nat × Bool)} {v u : Value} {x y : Operand} {t t' : TypeId}
theorem own_cut0 {W : World} {base sz k c : Nat} {et : TypeId} {A : Option Addr} {cs : List Value} (h : W.ownsRow base et sz (.slice A k c) k cs) : W.ownsRow base et sz (.slice A 0 c) 0 [] := by
  obtain ⟨hl, ⟨h1, rfl⟩ | ⟨g, cap, cur, h1, hg, hh, hc, hm, hs, ht⟩⟩ := h
  · cases h1; exact own_nil
  · cases h1; exact ⟨by simp, .inr ⟨g, _, cur, rfl, hg, hh, Nat.zero_le _, hm, hs, by simp⟩⟩
theorem k_growZ {k c0 : Nat} (hx : ev N e x = .slice none 0 c0) (hc0 : c0 = 0) (hy : ev N e y = .int .i64 (k : Int)) (h0 : 0 < k) (hk1 : k ≤ 1000)
    (hk : ∀ w' c, Ext w w' → w'.ownsRow w.heap.size 41 2 (.slice (some ⟨w.heap.size, 0, none⟩) 0 c) 0 [] → K (act N (upd e d (.slice (some ⟨w.heap.size, 0, none⟩) k c)) ds) w') :
    Oper.wpIn (Fw r) n Tryz.prog ⟨some d, .call { callee := .builtin .append, args := #[x, y], argTypes := #[26, 3] }, ty, pos, af, g⟩ (act N e ds) w K Q := by
  subst hc0
  obtain ⟨i, i1, i2, i3, i4⟩ := inf36.parts
  have hold : (Builtin.firstCells i.size 0 (.slice none 0 0)).run Tryz.prog w.drew = .ok ([] : List Value).toArray w.drew := by simp [Builtin.firstCells]
  have hrun := Lib.run_append_grow_zeros (P := Tryz.prog) w 26 3 ty 41 i (.agg #[S [], S []]) .i64 .i64 Tryz.underlying26 Tryz.underlying3 i1 i2 none 0 0 [] hold k h0 (by rw [i3]; decide) (by omega) (by omega) (by rw [i4]; omega)
    (by rw [i4]; unfold Builtin.nextslicecap; rw [if_pos (by omega)]; omega)
  simp only [Nat.zero_add] at hrun
  have hge := grownCap_ge w k 0 41
  have hle := grownCap_le_maxLen w k 0 41 (by simp only [maxLen]; omega)
  refine k_val (v := .slice (some ⟨w.heap.size, 0, none⟩) k (grownCap w k 0 41)) rfl ?_ (by
    rw [act_put]
    refine hk _ _ (Ext.trans (Ext.drew w) (Ext.alloc _ _)) (own_cut0 (k := k) (cs := ((([] : List Value).toArray ++ Builtin.zeroCells (Value.agg #[S [], S []]).cells k ++ Builtin.zeroCells (Value.agg #[S [], S []]).cells (grownCap w k 0 41 - k)).toList.take (k * 2))) ⟨?_, .inr ⟨w.heap.size, grownCap w k 0 41, _, rfl, Nat.le_refl _, heap_alloc_new w.drew _, hge, hle, ?_, rfl⟩⟩)
    · simp [Builtin.zeroCells, Value.cells]; done
    · simp [Builtin.zeroCells, Value.cells]; omega)
  simp [execOp, resolve, invoke, builtin, hx, hy, hrun]
theorem put_setRow {w : World} {g : Nat} {cs : Array Value} : Put w (w.setRow g cs) g :=
  ⟨rfl, rfl, rfl, by simp, fun k hk => by simp only [World.setRow]; rw [Array.getElem?_modify, if_neg (Ne.symm hk)]⟩
theorem cellsR_splice (l m : List R) (o : Nat) : (cellsR l).take (o * 2) ++ cellsR m ++ (cellsR l).drop (o * 2 + (cellsR m).length) = cellsR (l.take o ++ m ++ l.drop (o + m.length)) := by
  rw [cellsR_take, cellsR_len, show o * 2 + m.length * 2 = (o + m.length) * 2 by omega, cellsR_drop]
  simp [cellsR]
theorem k_copyR {base o dL dC sL sC' : Nat} {v : Value} {l src : List R} {A B : Option Addr} {lo : Nat} (h : w.ownsRow base 41 2 v l.length (cellsR l)) (hA : A = some ⟨bkOf (sA v), o * 2, none⟩) (hx : ev N e x = .slice A dL dC) (hol : o + dL = l.length) (hd : 0 < dL)
    (hy : ev N e y = .slice B sL sC') (hB : Rw w lo B (cellsR src)) (hsl : src.length = sL) (hs : 0 < sL)
    (hK : ∀ w', Put w w' (bkOf (sA v)) → base ≤ bkOf (sA v) → v.ownBlock = some (bkOf (sA v)) → w'.ownsRow base 41 2 v (l.take o ++ src.take (Nat.min sL dL) ++ l.drop (o + Nat.min sL dL)).length (cellsR (l.take o ++ src.take (Nat.min sL dL) ++ l.drop (o + Nat.min sL dL))) →
      K (act N (upd e d (.int .i64 ((Nat.min sL dL : Nat) : Int))) ds) w') :
    Oper.wpIn (Fw r) n Tryz.prog ⟨some d, .call { callee := .builtin .copy, args := #[x, y], argTypes := #[26, 26] }, ty, pos, af, g⟩ (act N e ds) w K Q := by
  subst hA
  obtain ⟨i, i1, i2, i3, i4⟩ := inf36.parts
  obtain ⟨hl, ⟨rfl, h0⟩ | ⟨g', cap, cur, rfl, hg, hh, hc, hm, hsz, ht⟩⟩ := h
  · omega
  · have hmin : Nat.min sL dL ≤ sL ∧ Nat.min sL dL ≤ dL := ⟨Nat.min_le_left _ _, Nat.min_le_right _ _⟩
    have hmn : (src.take (Nat.min sL dL)).length = Nat.min sL dL := by rw [List.length_take]; omega
    have hmp : 0 < Nat.min sL dL := by show 0 < min sL dL; omega
    obtain ⟨b, ob, rfl, hcell⟩ : ∃ b ob, B = some ⟨b, ob, none⟩ ∧ ∀ j u, (cellsR (src.take (Nat.min sL dL)))[j]? = some u → w.cell? ((⟨b, ob, none⟩ : Addr).add j) = some u := by
      have hB2 := Rw.take (Nat.min sL dL * 2) hB
      rw [cellsR_take] at hB2
      have hne : 0 < (cellsR (src.take (Nat.min sL dL))).length := by rw [cellsR_len, hmn]; omega
      obtain ⟨b, ob, rfl, _⟩ := hB2.cells 0 _ (List.getElem?_eq_getElem hne)
      exact ⟨b, ob, rfl, fun j u hu => by obtain ⟨b', o', e', hc'⟩ := hB2.cells j u hu; cases e'; rw [Addr.add_mid]; exact hc'⟩
    have hlen : (cellsR (src.take (Nat.min sL dL))).length = Nat.min sL dL * 2 := by rw [cellsR_len, hmn]
    have hld := run_loadCells_list (P := Tryz.prog) w ⟨b, ob, none⟩ (cellsR (src.take (Nat.min sL dL))) hcell
    have hst := run_storeCells_at Tryz.prog g' (o * 2) 41 (cellsR (src.take (Nat.min sL dL))) 0 cur w hh (by rw [hlen]; simp only [Nat.add_zero]; omega) cellsR_one
    rw [hlen] at hld hst
    simp only [Nat.add_zero] at hst
    have hlen2 : (l.take o ++ src.take (Nat.min sL dL) ++ l.drop (o + Nat.min sL dL)).length = l.length := by simp only [List.length_append, hmn, List.length_take, List.length_drop]; omega
    have hX : cur.toList.length = cap * 2 := by rw [Array.length_toList, hsz]
    have htk : (cur.toList.take (o * 2) ++ cellsR (src.take (Nat.min sL dL)) ++ cur.toList.drop (o * 2 + Nat.min sL dL * 2)).take (l.length * 2) = cellsR (l.take o ++ src.take (Nat.min sL dL) ++ l.drop (o + Nat.min sL dL)) := by
      have e1 := cellsR_splice l (src.take (Nat.min sL dL)) o
      rw [hmn, hlen, ← ht, List.take_take, Nat.min_eq_left (by omega), List.drop_take] at e1
      have hla : (cur.toList.take (o * 2) ++ cellsR (src.take (Nat.min sL dL))).length = o * 2 + Nat.min sL dL * 2 := by rw [List.length_append, List.length_take, hlen, hX]; omega
      rw [← e1, List.take_append, List.take_of_length_le (by rw [hla]; omega), hla]
    refine k_val (v := .int .i64 ((Nat.min sL dL : Nat) : Int)) (w' := w.setRow g' ((cur.toList.take (o * 2) ++ cellsR (src.take (Nat.min sL dL)) ++ cur.toList.drop (o * 2 + Nat.min sL dL * 2)).toArray)) rfl ?_ (by
      rw [act_put]
      refine hK _ put_setRow hg rfl ?_
      rw [hlen2]
      refine ⟨by rw [cellsR_len, hlen2], .inr ⟨g', cap, _, rfl, hg, setRow_heap w g' cur _ 41 _ hh, hc, hm, ?_, ?_⟩⟩
      · simp only [List.size_toArray, List.length_append, List.length_take, List.length_drop, hlen, hX]; omega
      · exact htk)
    change ev N e x = Value.slice (some ⟨g', o * 2, none⟩) dL dC at hx
    simp [execOp, resolve, invoke, builtin, hx, hy, Builtin.copy_, run_underlying Tryz.underlying26, Builtin.lenOf, Builtin.firstCells, sizeOf, typeInfo, i1, i3, hld, hst, goInt]
end
end Go.Proofs.YtepcnphmfbbhiaaGreatDoor
set_option linter.all false
namespace Go.Proofs.YtepcnphmfbbhiaaGreatDoor
open Go Go.Eng Go.RowKit
section
variable {W W' : World} {lo hi n i : Nat} {A : Option Addr} {H : Nat → Value} {L : Rows}
theorem Wr.ownS (h : Wr W lo hi n H L) (hi' : i < n) : W.ownsRow lo 41 2 (.slice (sA (H i)) (L i).length (sC (H i))) (L i).length (cellsR (L i)) := by
  have := h.own i hi'; rwa [h.hdr hi'] at this
theorem Wr.obS (h : Wr W lo hi n H L) (hi' : i < n) : (H i).ownBlock = (Value.slice (sA (H i)) (L i).length (sC (H i))).ownBlock := congrArg Value.ownBlock (h.hdr hi')
theorem Wr.lohi (h : Wr W lo hi n H L) (hi' : i < n) : ∀ g, (Value.slice (sA (H i)) (L i).length (sC (H i))).ownBlock = some g → lo ≤ g ∧ g < hi := fun g e => by
  rw [← h.obS hi'] at e; exact ⟨own_ge (h.own i hi') g e, h.hi i hi' g e⟩
theorem Wr.appS {v' : Value} {l' : List R} (h : Wr W lo hi n H L) (hj : i < n) (hg : W.grownBy W' (Value.slice (sA (H i)) (L i).length (sC (H i))).ownBlock) (ho : W'.ownsRow lo 41 2 v' l'.length (cellsR l'))
    (ha : v'.ownBlock = (Value.slice (sA (H i)) (L i).length (sC (H i))).ownBlock ∨ v'.ownBlock = some W.heap.size) : Wr W' lo W'.heap.size n (updF H i v') (updF L i l') := by
  rw [← h.obS hj] at hg ha
  exact h.app hj hg ho ha
theorem app_no {v' : Value} {b m c : Nat} (h : ∀ j, j < n → (H j).ownBlock ≠ some b) (ha : v'.ownBlock = (Value.slice (sA (H i)) m c).ownBlock ∨ v'.ownBlock = some W.heap.size) (hb : b < W.heap.size) (hi' : H i = .slice (sA (H i)) m c) :
    ∀ j, j < n → (updF H i v' j).ownBlock ≠ some b := fun j hj e => by
  by_cases hji : j = i
  · subst hji
    rw [updF_eq] at e
    rcases ha with ha | ha
    · rw [ha, ← hi'] at e; exact h j hj e
    · rw [ha] at e; cases e; omega
  · rw [updF_ne _ _ hji] at e; exact h j hj e
theorem Wr.oneU {v : Value} (h : Wr W lo hi n (updF H i v) L) (hi' : i < n) : v.oneCell' = true := by
  have := own_one (h.own i hi'); rwa [updF_eq] at this
theorem made_rows {b : Nat} (h : W.ownsRow b 26 1 (.slice A n n) n (madeCells #[Value.slice none 0 0] (n * 1)).toList) (hn : 0 < n) :
    Ho W A n (fun _ => .slice none 0 0) ∧ (b ≤ bkOf A ∧ bkOf A < W.heap.size) ∧ Wr W b W.heap.size n (fun _ => .slice none 0 0) nilR ∧ ∀ j, j < n → ((fun _ => Value.slice none 0 0) j : Value).ownBlock ≠ some (bkOf A) := by
  have hc : (madeCells #[Value.slice none 0 0] (n * 1)).toList = (List.range n).map fun _ => Value.slice none 0 0 := by
    apply List.ext_getElem
    · simp [madeCells]
    · intro i h1 h2; simp [madeCells, Nat.mod_one]
  rw [hc] at h
  obtain ⟨h1, h2, h3⟩ := Ho.of_own h hn
  exact ⟨h1, ⟨h2, own_lt h _ h3⟩, ⟨fun i _ => own_nil, fun i _ g e => (by cases e), fun i j _ _ _ => OwnNe.nil⟩, fun j _ e => (by cases e)⟩
end
theorem tr_step {K L : Rows} {p i j : Nat} (h : ∀ j', j' < p → K j' = trR L (if j' < j then i + 1 else i) j') (hj : j < p) : ∀ j', j' < p → updF K j (K j ++ [rAt (L i) j]) j' = trR L (if j' < j + 1 then i + 1 else i) j' := fun j' hj' => by
  by_cases e : j' = j
  · subst e
    rw [updF_eq, h j' hj', if_neg (by omega), if_pos (by omega), trR_succ]
  · rw [updF_ne _ _ e, h j' hj']
    by_cases h2 : j' < j
    · rw [if_pos h2, if_pos (by omega)]
    · rw [if_neg h2, if_neg (by omega)]
theorem updF_updF {α : Type} (f : Nat → α) (i : Nat) (a b : α) : updF (updF f i a) i b = updF f i b := funext fun j => by unfold updF; split <;> rfl
end Go.Proofs.YtepcnphmfbbhiaaGreatDoor
