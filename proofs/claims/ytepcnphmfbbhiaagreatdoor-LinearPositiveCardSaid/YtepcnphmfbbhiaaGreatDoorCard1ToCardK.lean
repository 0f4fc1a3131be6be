/- Part of the proof that all functions of the layer agree with the reference implementation. -/
import Derived.Test.YtepcnphmfbbhiaaGreatDoorLin22
import Derived.Test.YtepcnphmfbbhiaaGreatDoorTie
import Derived.Test.YtepcnphmfbbhiaaGreatDoorCards
import Derived.ProofKit
import Derived.OpenShut
import Derived.LaidMore
import Derived.Lay
import Derived.SevenTiedAt
import Derived.Stop.Joined
import Derived.Deep.SlicePairs
import Derived.Deep.Frames
import Derived.Deep.Onto
import Derived.WideKeyArgs
import Derived.SizedLaws
set_option linter.all false
set_option linter.all false
namespace Go.Proofs.YtepcnphmfbbhiaaGreatDoor
open Go Go.ChangeShapes Go.WideShapes Go.ChangeAt Go.RowKit Go.Deep Go.Eng
theorem cOwn : ownKnob Tryz.prog.godebug = none := by kernel_rfl
theorem cLaid : laidOutB Tryz.prog = true := by kernel_rfl
theorem c36 : Tryz.prog.cellsOf 41 = 2 := by kernel_rfl
theorem c23 : Tryz.prog.cellsOf 26 = 1 := by kernel_rfl
theorem c3 : Tryz.prog.cellsOf 3 = 1 := by kernel_rfl
def byt : Value → List UInt8
  | .string s => s.data.toList
  | _ => []
theorem byt_S (s : ByteArray) : S (byt (.string s)) = .string s := by simp [S, byt]
theorem spot_none {W : World} {a : Addr} {v : Value} (h : W.cell? a = some v) : a.spot = none := by
  unfold World.cell? at h
  split at h
  · cases hs : a.spot with
    | none => rfl
    | some x => rw [hs] at h; simp at h
  · cases h
theorem block_lt {W : World} {a : Addr} {v : Value} (h : W.cell? a = some v) : a.block < W.heap.size := World.block_lt_of_cell? _ _ h
section
variable {H : Type} {enc : TypeId × Value → H} {W : World} {base fuel : Nat} {cs : List Value} {x : DataW H × List MemPlace}
theorem row_of (h : DataW.trod enc Tryz.prog W base (fun _ => true) true fuel 26 cs = some x) :
    ∃ (A : Option Addr) (cap : Nat) (xs : List R), cs = [.slice A xs.length cap] ∧
      ∀ k, k < xs.length → A = some ⟨bkOf A, ofOf A, none⟩ ∧ ∀ j u, [S (rAt xs k).1, S (rAt xs k).2][j]? = some u → W.cell? ⟨bkOf A, ofOf A + k * 2 + j, none⟩ = some u := by
  rcases open_slice_pairs Tryz.underlying26 Tryz.underlying41 c36 rfl rfl (by kernel_rfl) (by kernel_rfl) h with ⟨rfl, _⟩ | ⟨a, len, cap, m, n, V0, V1, D0, D1, P0, P1, rfl, _, hl, _, hm, _, hx⟩
  · exact ⟨none, 0, [], rfl, fun k hk => by simp at hk⟩
  have hm' : m = cap := by simpa using hm
  refine ⟨some a, cap, (List.range len).map fun i => (byt (V0 i), byt (V1 i)), by simp, fun k hk => ?_⟩
  have hk' : k < len := by simpa using hk
  obtain ⟨h1, h2, h3, h4⟩ := hx k (by omega)
  obtain ⟨s0, e0, _, _⟩ := DataW.trod_string (by kernel_rfl) h3
  obtain ⟨s1, e1, _, _⟩ := DataW.trod_string (by kernel_rfl) h4
  have e0 : V0 k = .string s0 := by simpa using e0
  have e1 : V1 k = .string s1 := by simpa using e1
  have hr : rAt ((List.range len).map fun i => (byt (V0 i), byt (V1 i))) k = (byt (V0 k), byt (V1 k)) := by simp [rAt, List.getD, hk']
  have hsp : a.spot = none := spot_none (hx 0 (by omega)).1 |> fun e => by simpa [Addr.add] using e
  obtain ⟨b, o, sp⟩ := a
  cases hsp
  refine ⟨rfl, fun j u hu => ?_⟩
  rw [hr, e0, e1, byt_S, byt_S] at hu
  have ha : ∀ i, W.cell? ((⟨b, o, none⟩ : Addr).add i) = W.cell? ⟨b, o + i, none⟩ := fun i => by unfold Addr.add; split <;> simp_all
  rw [ha] at h1 h2
  match j, hu with
  | 0, hu => simp at hu; subst hu; rw [← e0]; simpa [bkOf, ofOf] using h1
  | 1, hu => simp at hu; subst hu; rw [← e1]; simpa [bkOf, ofOf, Nat.add_assoc] using h2
end
end Go.Proofs.YtepcnphmfbbhiaaGreatDoor
set_option linter.all false
namespace Go.Proofs.YtepcnphmfbbhiaaGreatDoor
set_option maxRecDepth 100000
open Go Go.ChangeShapes Go.WideShapes Go.ChangeAt Go.RowKit Go.Deep Go.Eng
theorem add_cell {W : World} {b o i : Nat} : W.cell? ((⟨b, o, none⟩ : Addr).add i) = W.cell? ⟨b, o + i, none⟩ := by unfold Addr.add; split <;> simp_all
theorem maxL : maxLen = 9223372036854775807 := by decide +kernel
section
variable {H : Type} {enc : TypeId × Value → H} {W : World} {base fuel b0 : Nat} {cs : List Value} {x : DataW H × List MemPlace}
theorem ok_addr {t e : TypeId} {a : Addr} {len cap : Nat} (ht : Tryz.prog.underlying t = some (.slice e)) (h : Value.okWide Tryz.prog W .any b0 t (.slice (some a) len cap)) : a.spot = none ∧ a.block < W.heap.size := by
  simp only [Value.okWide, ht, Cell.okWide, Cell.ok, World.has] at h
  obtain ⟨_, _, _, hs, row, cells, hsh, _⟩ := h
  refine ⟨hs, ?_⟩
  unfold World.shape? at hsh
  cases hh : W.heap[a.block]? with
  | none => rw [hh] at hsh; cases hsh
  | some o => exact (Array.getElem?_eq_some_iff.1 hh).1
theorem mat_of (h : DataW.trod enc Tryz.prog W base (fun _ => true) true fuel 24 cs = some x) :
    ∃ (A : Option Addr) (n cap : Nat) (Hh : Nat → Value) (L : Rows), cs = [.slice A n cap] ∧ Mt0 W A n Hh L := by
  rcases open_slice Tryz.underlying24 h with ⟨rfl, _⟩ | ⟨a, len, cap, m, n, D, Pl, rfl, _, hl, _, hm, _, hx⟩
  · exact ⟨none, 0, 0, fun _ => .nilIface, nilR, rfl, ⟨fun hi => by omega, fun hi => by omega⟩⟩
  have hm' : m = cap := by simpa using hm
  have each : ∀ i, i < len → ∃ q : Value × List R, W.cell? (a.add i) = some q.1 ∧ q.1 = .slice (sA q.1) q.2.length (sC q.1) ∧
      ∀ k, k < q.2.length → sA q.1 = some ⟨bkOf (sA q.1), ofOf (sA q.1), none⟩ ∧ ∀ j u, [S (rAt q.2 k).1, S (rAt q.2 k).2][j]? = some u → W.cell? ⟨bkOf (sA q.1), ofOf (sA q.1) + k * 2 + j, none⟩ = some u := fun i hi => by
    obtain ⟨cs', h1, h2⟩ := hx i (by omega)
    rw [c23, Nat.mul_one] at h1
    obtain ⟨A, cap', xs, rfl, hr⟩ := row_of h2
    exact ⟨(.slice A xs.length cap', xs), cell_of_cells?_one h1, rfl, hr⟩
  obtain ⟨q, hq⟩ := choose_lt each
  refine ⟨some a, len, cap, fun i => (q i).1, fun i => (q i).2, rfl, ⟨fun {i} hi => ?_, fun {i k} hi hk => (hq i hi).2.2 k hk⟩⟩
  have hsp : a.spot = none := by
    have := spot_none (hq 0 (by omega)).1
    simpa [Addr.add] using this
  obtain ⟨b, o, sp⟩ := a
  cases hsp
  refine ⟨rfl, ?_⟩
  have h1 := (hq i hi).1
  rw [add_cell, (hq i hi).2.1] at h1
  exact h1
theorem ints_of {v : Value} (hv : Value.okWide Tryz.prog W .any b0 22 v) (h : DataW.trod enc Tryz.prog W base (fun _ => true) true fuel 22 v.cells.toList = some x) :
    ∃ (A : Option Addr) (cap : Nat) (zs : List Int), v = .slice A zs.length cap ∧ Rw W 0 A (intZ zs) ∧ (∀ z ∈ zs, In64 z) ∧ zs.length ≤ 9223372036854775807 := by
  obtain ⟨A, len, cap, rfl⟩ := okWide_slice Tryz.underlying22 hv
  rcases open_ints Tryz.underlying22 Tryz.underlying3 c3 h with ⟨hc, _⟩ | ⟨a, len', cap', zs, hc, _, hl, hm, hlen, _, hcell, hwf⟩
  · simp [Value.cells] at hc; obtain ⟨rfl, rfl, rfl⟩ := hc
    exact ⟨none, 0, [], rfl, Rw.nil W 0, fun z hz => by simp at hz, by simp⟩
  simp [Value.cells] at hc
  obtain ⟨rfl, rfl, rfl⟩ := hc
  obtain ⟨hs, hb⟩ := ok_addr Tryz.underlying22 hv
  have hlen' : zs.length = cap := by simpa using hlen
  have hml := maxL
  have ht : (zs.take len).length = len := by simp; omega
  refine ⟨some a, cap, zs.take len, by rw [ht], ⟨fun j u hu => ?_, fun _ _ => Nat.zero_le _, fun ad e => by cases e; exact hb⟩, fun z hz => ?_, by rw [ht]; omega⟩
  · have hj : j < len := by
      have := (List.getElem?_eq_some_iff.1 hu).1
      simp [intZ] at this; omega
    have h1 := hcell j (by omega)
    obtain ⟨b, o, sp⟩ := a
    cases hs
    rw [add_cell] at h1
    refine ⟨b, o, rfl, h1.trans ?_⟩
    rw [← hu]
    simp [intZ, List.getElem?_take, hj, List.getD, show j < zs.length by omega]
  · have := hwf z (List.mem_of_mem_take hz)
    simp only [Lit.wf, Bool.and_eq_true, decide_eq_true_eq] at this
    have e1 : IntKind.i64.min = -9223372036854775808 := rfl
    have e2 : IntKind.i64.max = 9223372036854775807 := rfl
    rw [e1, e2] at this
    unfold In64; omega
theorem fracs_of {v : Value} (hv : Value.okWide Tryz.prog W .any b0 26 v) (h : DataW.trod enc Tryz.prog W base (fun _ => true) true fuel 26 v.cells.toList = some x) :
    ∃ (A : Option Addr) (cap : Nat) (xs : List R), v = .slice A xs.length cap ∧ Rw W 0 A (cellsR xs) ∧ (x.1 = .nil ∧ xs = [] ∨ ∃ es sp, x.1 = .slice es sp ∧ es.length = xs.length) := by
  obtain ⟨A, len, cap, rfl⟩ := okWide_slice Tryz.underlying26 hv
  obtain ⟨A', cap', xs, hc, hr⟩ := row_of h
  simp [Value.cells] at hc
  obtain ⟨rfl, rfl, rfl⟩ := hc
  refine ⟨A, cap, xs, rfl, ⟨fun j u hu => ?_, fun _ _ => Nat.zero_le _, fun ad e => by subst e; exact (ok_addr Tryz.underlying26 hv).2⟩, ?_⟩
  · have hj : j < xs.length * 2 := by
      have := (List.getElem?_eq_some_iff.1 hu).1
      rwa [cellsR_len] at this
    obtain ⟨hA, hcell⟩ := hr (j / 2) (by omega)
    obtain ⟨g0, g1⟩ := cellsR_get (l := xs) (i := j / 2) (by omega)
    refine ⟨bkOf A, ofOf A, hA, ?_⟩
    have := hcell (j % 2) u (by
      rcases Nat.mod_two_eq_zero_or_one j with e | e
      · rw [e]; rw [show j = j / 2 * 2 by omega, g0] at hu; simpa using hu
      · rw [e]; rw [show j = j / 2 * 2 + 1 by omega, g1] at hu; simpa using hu)
    rwa [Nat.add_assoc, show j / 2 * 2 + j % 2 = j by omega] at this
  · rcases DataW.trod_slice Tryz.underlying26 h with ⟨hc, rfl⟩ | ⟨a, len, cap', es, sp, n, _, hc, rfl, _, _, _, hl, _⟩
    · simp [Value.cells] at hc
      exact .inl ⟨rfl, hc.2.1⟩
    · simp [Value.cells] at hc
      exact .inr ⟨_, _, rfl, by simp; omega⟩
end
end Go.Proofs.YtepcnphmfbbhiaaGreatDoor
set_option linter.all false
namespace Go.Proofs.YtepcnphmfbbhiaaGreatDoor
open Go Go.ChangeShapes Go.WideShapes Go.ChangeAt Go.RowKit Go.Deep Go.Eng
theorem gPow : Tryz.prog.globalNamed "internal/strconv.uint64pow10" = some 2 := by kernel_rfl
theorem tPow : (Tryz.prog.globals[2]?).map (·.type) = some 205 := by kernel_rfl
theorem zPow0 : (((begin Tryz.prog (fun _ _ => 0) default).world.heap[2]?).bind Obj.row?).map (·.2) = some 205 := by kernel_rfl
theorem zPow : ∃ z, (((begin Tryz.prog (fun _ _ => 0) default).world.heap[2]?).bind Obj.row?) = some (z, 205) := by
  obtain ⟨⟨z, t⟩, h, e⟩ := Option.map_eq_some_iff.1 zPow0
  cases e; exact ⟨z, h⟩
theorem nPow : 2 < Tryz.prog.globals.size := of_decide_eq_true (by kernel_rfl)
theorem lPow : Rows.laid_internal_strconv_uint64pow10 = (.agg (Lib.pow10Tab.map fun z => DataW.lit (.int .u64 z)) : DataW Unit) := by kernel_rfl
theorem cU : Tryz.prog.cellsOf 139 = 1 := by kernel_rfl
theorem uU : Tryz.prog.underlying 139 = some (.int .u64) := by kernel_rfl
theorem cA : Tryz.prog.cellsOf 205 = 20 := by kernel_rfl
theorem kPow : Lib.pow10Tab.length = 20 := by kernel_rfl
theorem trod_cons {H : Type} {enc : TypeId × Value → H} {P : Program} {w : World} {base : Nat} {sp : Nat → Bool} {hd : Bool} {t : TypeId} {ts : List TypeId} {vs : List Value} {ds : List (DataW H)} {ps : List MemPlace}
    (h : DataW.TrodAll enc P w base sp hd (t :: ts) vs ds ps) : ∃ v vs' d ds' p q, vs = v :: vs' ∧ ds = d :: ds' ∧ DataW.Trod enc P w base sp hd t v d p ∧ DataW.TrodAll enc P w base sp hd ts vs' ds' q := by
  match vs, ds, h with
  | v :: vs', d :: ds', h =>
    obtain ⟨p, q, h1, h2, _⟩ := h
    exact ⟨v, vs', d, ds', p, q, rfl, rfl, h1, h2⟩
theorem trod_end {H : Type} {enc : TypeId × Value → H} {P : Program} {w : World} {base : Nat} {sp : Nat → Bool} {hd : Bool} {vs : List Value} {ds : List (DataW H)} {ps : List MemPlace}
    (h : DataW.TrodAll enc P w base sp hd [] vs ds ps) : vs = [] ∧ ds = [] := by
  match vs, ds, h with
  | [], [], _ => exact ⟨rfl, rfl⟩
theorem all_again {H : Type} {enc : TypeId × Value → H} {W W' : World} {sp' : Nat → Bool} (k : Ext W W') : ∀ {ts : List TypeId} {vs : List Value} {ds : List (DataW H)} {ps : List MemPlace},
    (∀ t ∈ ts, Tryz.prog.readableRec t = true ∧ t < Tryz.prog.types.size) → DataW.TrodAll enc Tryz.prog W 0 (fun _ => true) true ts vs ds ps → (∀ p ∈ ps, p.block < W.heap.size) → (∀ p ∈ ps, sp' p.block = true) → DataW.TrodAll enc Tryz.prog W' 0 sp' true ts vs ds ps
  | [], [], [], _, _, h, _, _ => h
  | t :: ts, v :: vs, d :: ds, ps, hr, h, hl, hs => by
    obtain ⟨p, q, h1, h2, rfl⟩ := h
    refine ⟨p, q, WideElems.Trod_stays cLaid (hr t (by simp)).1 (hr t (by simp)).2 h1 (fun x hx => ?_) (fun x hx => hs x (by simp [hx])), all_again k (fun u hu => hr u (by simp [hu])) h2 (fun x hx => hl x (by simp [hx])) (fun x hx => hs x (by simp [hx])), rfl⟩
    have hb := hl x (by simp [hx])
    cases x with
    | cell b o => exact World.cell?_of_block (k.block b hb)
    | map b => exact k.block b hb
  | [], [], _ :: _, _, _, h, _, _ => h.elim
  | [], _ :: _, _, _, _, h, _, _ => h.elim
  | _ :: _, [], _, _, _, h, _, _ => h.elim
  | _ :: _, _ :: _, [], _, _, h, _, _ => h.elim
theorem wf64 {n : Int} (h : (Lit.int .i64 n).wf = true) : In64 n := by
  simp only [Lit.wf, Bool.and_eq_true, decide_eq_true_eq] at h
  have e1 : IntKind.i64.min = -9223372036854775808 := rfl
  have e2 : IntKind.i64.max = 9223372036854775807 := rfl
  rw [e1, e2] at h
  unfold In64; omega
end Go.Proofs.YtepcnphmfbbhiaaGreatDoor
