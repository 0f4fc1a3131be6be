/- LinearMatchesReference of yardsticklaw13 returns true for every input, and each argument reads afterwards as it read before. Conditions: when the call begins, the package-level variables that the row lists hold what the program text lays; the card ties them to the pruned copy of the project. -/
import Derived.Test.YtdmhligiipjchaaGreatDoorLin23
import Derived.Test.YtdmhligiipjchaaGreatDoorTie
import Derived.Test.YtdmhligiipjchaaGreatDoorCards
import Derived.ProofKit
import Derived.OpenShut
import Derived.LaidMore
import Derived.Lay
import Derived.SevenTiedAt
import Derived.Stop.Joined
import Derived.Deep.SlicePairs
import Derived.Deep.Frames
import Derived.Deep.Onto
import Derived.WideKeyArgs
import Derived.SizedLaws
set_option linter.all false
namespace Go.Proofs.YtdmhligiipjchaaGreatDoor
open Go Go.ChangeShapes Go.WideShapes Go.ChangeAt Go.RowKit Go.Deep Go.Eng
theorem cOwn : ownKnob Tryz.prog.godebug = none := by kernel_rfl
theorem cLaid : laidOutB Tryz.prog = true := by kernel_rfl
theorem c36 : Tryz.prog.cellsOf 36 = 2 := by kernel_rfl
theorem c23 : Tryz.prog.cellsOf 23 = 1 := by kernel_rfl
theorem c3 : Tryz.prog.cellsOf 3 = 1 := by kernel_rfl
def byt : Value → List UInt8
  | .string s => s.data.toList
  | _ => []
theorem byt_S (s : ByteArray) : S (byt (.string s)) = .string s := by simp [S, byt]
theorem spot_none {W : World} {a : Addr} {v : Value} (h : W.cell? a = some v) : a.spot = none := by
  unfold World.cell? at h
  split at h
  · cases hs : a.spot with
    | none => rfl
    | some x => rw [hs] at h; simp at h
  · cases h
section
variable {H : Type} {enc : TypeId × Value → H} {W : World} {base fuel : Nat} {cs : List Value} {x : DataW H × List MemPlace}
theorem row_of (h : DataW.trod enc Tryz.prog W base (fun _ => true) true fuel 23 cs = some x) :
    ∃ (A : Option Addr) (cap : Nat) (xs : List R), cs = [.slice A xs.length cap] ∧
      ∀ k, k < xs.length → A = some ⟨bkOf A, ofOf A, none⟩ ∧ ∀ j u, [S (rAt xs k).1, S (rAt xs k).2][j]? = some u → W.cell? ⟨bkOf A, ofOf A + k * 2 + j, none⟩ = some u := by
  rcases open_slice_pairs Tryz.underlying23 Tryz.underlying36 c36 rfl rfl (by kernel_rfl) (by kernel_rfl) h with ⟨rfl, _⟩ | ⟨a, len, cap, m, n, V0, V1, D0, D1, P0, P1, rfl, _, hl, _, hm, _, hx⟩
  · exact ⟨none, 0, [], rfl, fun k hk => by simp at hk⟩
  have hm' : m = cap := by simpa using hm
  refine ⟨some a, cap, (List.range len).map fun i => (byt (V0 i), byt (V1 i)), by simp, fun k hk => ?_⟩
  have hk' : k < len := by simpa using hk
  obtain ⟨h1, h2, h3, h4⟩ := hx k (by omega)
  obtain ⟨s0, e0, _, _⟩ := DataW.trod_string (by kernel_rfl) h3
  obtain ⟨s1, e1, _, _⟩ := DataW.trod_string (by kernel_rfl) h4
  have e0 : V0 k = .string s0 := by simpa using e0
  have e1 : V1 k = .string s1 := by simpa using e1
  have hr : rAt ((List.range len).map fun i => (byt (V0 i), byt (V1 i))) k = (byt (V0 k), byt (V1 k)) := by simp [rAt, List.getD, hk']
  have hsp : a.spot = none := spot_none (hx 0 (by omega)).1 |> fun e => by simpa [Addr.add] using e
  obtain ⟨b, o, sp⟩ := a
  cases hsp
  refine ⟨rfl, fun j u hu => ?_⟩
  rw [hr, e0, e1, byt_S, byt_S] at hu
  have ha : ∀ i, W.cell? ((⟨b, o, none⟩ : Addr).add i) = W.cell? ⟨b, o + i, none⟩ := fun i => by unfold Addr.add; split <;> simp_all
  rw [ha] at h1 h2
  match j, hu with
  | 0, hu => simp at hu; subst hu; rw [← e0]; simpa [bkOf, ofOf] using h1
  | 1, hu => simp at hu; subst hu; rw [← e1]; simpa [bkOf, ofOf, Nat.add_assoc] using h2
end
end Go.Proofs.YtdmhligiipjchaaGreatDoor
namespace Go.Proofs.YtdmhligiipjchaaGreatDoor
set_option maxRecDepth 100000
open Go Go.ChangeShapes Go.WideShapes Go.ChangeAt Go.RowKit Go.Deep Go.Eng
theorem add_cell {W : World} {b o i : Nat} : W.cell? ((⟨b, o, none⟩ : Addr).add i) = W.cell? ⟨b, o + i, none⟩ := by unfold Addr.add; split <;> simp_all
theorem maxL : maxLen = 9223372036854775807 := by decide +kernel
section
variable {H : Type} {enc : TypeId × Value → H} {W : World} {base fuel b0 : Nat} {cs : List Value} {x : DataW H × List MemPlace}
theorem ok_addr {t e : TypeId} {a : Addr} {len cap : Nat} (ht : Tryz.prog.underlying t = some (.slice e)) (h : Value.okWide Tryz.prog W .any b0 t (.slice (some a) len cap)) : a.spot = none ∧ a.block < W.heap.size := by
  simp only [Value.okWide, ht, Cell.okWide, Cell.ok, World.has] at h
  obtain ⟨_, _, _, hs, row, cells, hsh, _⟩ := h
  refine ⟨hs, ?_⟩
  unfold World.shape? at hsh
  cases hh : W.heap[a.block]? with
  | none => rw [hh] at hsh; cases hsh
  | some o => exact (Array.getElem?_eq_some_iff.1 hh).1
theorem mat_of (h : DataW.trod enc Tryz.prog W base (fun _ => true) true fuel 22 cs = some x) :
    ∃ (A : Option Addr) (n cap : Nat) (Hh : Nat → Value) (L : Rows), cs = [.slice A n cap] ∧ Mt0 W A n Hh L := by
  rcases open_slice Tryz.underlying22 h with ⟨rfl, _⟩ | ⟨a, len, cap, m, n, D, Pl, rfl, _, hl, _, hm, _, hx⟩
  · exact ⟨none, 0, 0, fun _ => .nilIface, nilR, rfl, ⟨fun hi => by omega, fun hi => by omega⟩⟩
  have hm' : m = cap := by simpa using hm
  have each : ∀ i, i < len → ∃ q : Value × List R, W.cell? (a.add i) = some q.1 ∧ q.1 = .slice (sA q.1) q.2.length (sC q.1) ∧
      ∀ k, k < q.2.length → sA q.1 = some ⟨bkOf (sA q.1), ofOf (sA q.1), none⟩ ∧ ∀ j u, [S (rAt q.2 k).1, S (rAt q.2 k).2][j]? = some u → W.cell? ⟨bkOf (sA q.1), ofOf (sA q.1) + k * 2 + j, none⟩ = some u := fun i hi => by
    obtain ⟨cs', h1, h2⟩ := hx i (by omega)
    rw [c23, Nat.mul_one] at h1
    obtain ⟨A, cap', xs, rfl, hr⟩ := row_of h2
    exact ⟨(.slice A xs.length cap', xs), cell_of_cells?_one h1, rfl, hr⟩
  obtain ⟨q, hq⟩ := choose_lt each
  refine ⟨some a, len, cap, fun i => (q i).1, fun i => (q i).2, rfl, ⟨fun {i} hi => ?_, fun {i k} hi hk => (hq i hi).2.2 k hk⟩⟩
  have hsp : a.spot = none := by
    have := spot_none (hq 0 (by omega)).1
    simpa [Addr.add] using this
  obtain ⟨b, o, sp⟩ := a
  cases hsp
  refine ⟨rfl, ?_⟩
  have h1 := (hq i hi).1
  rw [add_cell, (hq i hi).2.1] at h1
  exact h1
theorem ints_of {v : Value} (hv : Value.okWide Tryz.prog W .any b0 24 v) (h : DataW.trod enc Tryz.prog W base (fun _ => true) true fuel 24 v.cells.toList = some x) :
    ∃ (A : Option Addr) (cap : Nat) (zs : List Int), v = .slice A zs.length cap ∧ Rw W 0 A (intZ zs) ∧ (∀ z ∈ zs, In64 z) ∧ zs.length ≤ 9223372036854775807 := by
  obtain ⟨A, len, cap, rfl⟩ := okWide_slice Tryz.underlying24 hv
  rcases open_ints Tryz.underlying24 Tryz.underlying3 c3 h with ⟨hc, _⟩ | ⟨a, len', cap', zs, hc, _, hl, hm, hlen, _, hcell, hwf⟩
  · simp [Value.cells] at hc; obtain ⟨rfl, rfl, rfl⟩ := hc
    exact ⟨none, 0, [], rfl, Rw.nil W 0, fun z hz => by simp at hz, by simp⟩
  simp [Value.cells] at hc
  obtain ⟨rfl, rfl, rfl⟩ := hc
  obtain ⟨hs, hb⟩ := ok_addr Tryz.underlying24 hv
  have hlen' : zs.length = cap := by simpa using hlen
  have hml := maxL
  have ht : (zs.take len).length = len := by simp; omega
  refine ⟨some a, cap, zs.take len, by rw [ht], ⟨fun j u hu => ?_, fun _ _ => Nat.zero_le _, fun ad e => by cases e; exact hb⟩, fun z hz => ?_, by rw [ht]; omega⟩
  · have hj : j < len := by
      have := (List.getElem?_eq_some_iff.1 hu).1
      simp [intZ] at this; omega
    have h1 := hcell j (by omega)
    obtain ⟨b, o, sp⟩ := a
    cases hs
    rw [add_cell] at h1
    refine ⟨b, o, rfl, h1.trans ?_⟩
    rw [← hu]
    simp [intZ, List.getElem?_take, hj, List.getD, show j < zs.length by omega]
  · have := hwf z (List.mem_of_mem_take hz)
    simp only [Lit.wf, Bool.and_eq_true, decide_eq_true_eq] at this
    have e1 : IntKind.i64.min = -9223372036854775808 := rfl
    have e2 : IntKind.i64.max = 9223372036854775807 := rfl
    rw [e1, e2] at this
    unfold In64; omega
theorem fracs_of {v : Value} (hv : Value.okWide Tryz.prog W .any b0 23 v) (h : DataW.trod enc Tryz.prog W base (fun _ => true) true fuel 23 v.cells.toList = some x) :
    ∃ (A : Option Addr) (cap : Nat) (xs : List R), v = .slice A xs.length cap ∧ Rw W 0 A (cellsR xs) ∧ (x.1 = .nil ∧ xs = [] ∨ ∃ es sp, x.1 = .slice es sp ∧ es.length = xs.length) := by
  obtain ⟨A, len, cap, rfl⟩ := okWide_slice Tryz.underlying23 hv
  obtain ⟨A', cap', xs, hc, hr⟩ := row_of h
  simp [Value.cells] at hc
  obtain ⟨rfl, rfl, rfl⟩ := hc
  refine ⟨A, cap, xs, rfl, ⟨fun j u hu => ?_, fun _ _ => Nat.zero_le _, fun ad e => by subst e; exact (ok_addr Tryz.underlying23 hv).2⟩, ?_⟩
  · have hj : j < xs.length * 2 := by
      have := (List.getElem?_eq_some_iff.1 hu).1
      rwa [cellsR_len] at this
    obtain ⟨hA, hcell⟩ := hr (j / 2) (by omega)
    obtain ⟨g0, g1⟩ := cellsR_get (l := xs) (i := j / 2) (by omega)
    refine ⟨bkOf A, ofOf A, hA, ?_⟩
    have := hcell (j % 2) u (by
      rcases Nat.mod_two_eq_zero_or_one j with e | e
      · rw [e]; rw [show j = j / 2 * 2 by omega, g0] at hu; simpa using hu
      · rw [e]; rw [show j = j / 2 * 2 + 1 by omega, g1] at hu; simpa using hu)
    rwa [Nat.add_assoc, show j / 2 * 2 + j % 2 = j by omega] at this
  · rcases DataW.trod_slice Tryz.underlying23 h with ⟨hc, rfl⟩ | ⟨a, len, cap', es, sp, n, _, hc, rfl, _, _, _, hl, _⟩
    · simp [Value.cells] at hc
      exact .inl ⟨rfl, hc.2.1⟩
    · simp [Value.cells] at hc
      exact .inr ⟨_, _, rfl, by simp; omega⟩
end
end Go.Proofs.YtdmhligiipjchaaGreatDoor
namespace Go.Proofs.YtdmhligiipjchaaGreatDoor
open Go Go.ChangeShapes Go.WideShapes Go.ChangeAt Go.RowKit Go.Deep Go.Eng
theorem gPow : Tryz.prog.globalNamed "internal/strconv.uint64pow10" = some 2 := by kernel_rfl
theorem tPow : (Tryz.prog.globals[2]?).map (·.type) = some 203 := by kernel_rfl
theorem zPow0 : (((begin Tryz.prog (fun _ _ => 0) default).world.heap[2]?).bind Obj.row?).map (·.2) = some 203 := by kernel_rfl
theorem zPow : ∃ z, (((begin Tryz.prog (fun _ _ => 0) default).world.heap[2]?).bind Obj.row?) = some (z, 203) := by
  obtain ⟨⟨z, t⟩, h, e⟩ := Option.map_eq_some_iff.1 zPow0
  cases e; exact ⟨z, h⟩
theorem nPow : 2 < Tryz.prog.globals.size := of_decide_eq_true (by kernel_rfl)
theorem lPow : Rows.laid_internal_strconv_uint64pow10 = (.agg (Lib.pow10Tab.map fun z => DataW.lit (.int .u64 z)) : DataW Unit) := by kernel_rfl
theorem cU : Tryz.prog.cellsOf 141 = 1 := by kernel_rfl
theorem uU : Tryz.prog.underlying 141 = some (.int .u64) := by kernel_rfl
theorem cA : Tryz.prog.cellsOf 203 = 20 := by kernel_rfl
theorem kPow : Lib.pow10Tab.length = 20 := by kernel_rfl
set_option maxRecDepth 100000 in
theorem tb_of {W : World} (hS : W.ShapedOpen Tryz.prog) (h : laidMetH Tryz.prog Rows.linearMatchesReferenceRow.laid W) : Tb W := by
  rw [MakeChecks.laidMetH_plain _ _ _ (by kernel_rfl)] at h
  obtain ⟨ps, ⟨_, _, _, _, _, _, _, _, _, _, ⟨_, _, _, _, _, _, _, _, _, _, ⟨g, t, cs, fuel, p, q, hg, ht, hv, hd, _, _⟩, _⟩, _⟩, _, _⟩ := h
  obtain rfl := Option.some.inj (gPow.symm.trans hg)
  obtain rfl := Option.some.inj (tPow.symm.trans ht)
  obtain ⟨z, hz⟩ := zPow
  obtain ⟨cs', hh, _⟩ := hS.1 2 z 203 nPow hz
  have hc : cs' = cs := by
    have := hv
    simp only [World.var?, gPow, Option.bind_some, hh] at this
    exact Option.some.inj this
  subst hc
  obtain ⟨xs, m, _, ex, hl0, hl, hel⟩ := DataW.trod_array Tryz.underlying203 hd
  have ex2 : xs.map (·.1) = Lib.pow10Tab.map fun z => DataW.lit (.int .u64 z) := by
    have := (Prod.mk.inj ex).1
    rw [lPow] at this
    exact (DataW.agg.inj this).symm
  rw [cU] at hel
  refine ⟨(0, 0), hh.trans (congrArg (fun c => some (Obj.cells c 203)) ?_)⟩
  apply Array.ext'
  apply List.ext_getElem?
  intro i
  by_cases hi : i < 20
  · have hE := hel i hi
    rw [Nat.mul_one, List.getElem?_eq_getElem (by omega)] at hE
    obtain ⟨z, e1, e2, _⟩ := DataW.trod_int uU hE
    have e4 : (xs.map (·.1))[i]? = (Lib.pow10Tab.map fun n => (DataW.lit (.int .u64 n) : DataW Unit))[i]? := by rw [ex2]
    rw [List.getElem?_map, List.getElem?_map, List.getElem?_eq_getElem (by omega : i < xs.length), List.getElem?_eq_getElem (by rw [kPow]; exact hi), e2] at e4
    simp only [Option.map_some, Option.some.injEq, DataW.lit.injEq, Lit.int.injEq, true_and] at e4
    have h0 : ((cs'.toList.drop i).take 1)[0]? = some (.int .u64 z) := by rw [e1]; rfl
    have h1 : cs'.toList[i]? = some (.int .u64 z) := by simpa using h0
    rw [h1, e4]
    simp [List.getElem?_eq_getElem (show i < Lib.pow10Tab.length by rw [kPow]; exact hi)]
  · have h1 : cs'.toList.length = 20 := by rw [hl0]; exact cA
    rw [List.getElem?_eq_none (by omega), List.getElem?_eq_none (by simp [kPow]; omega)]
end Go.Proofs.YtdmhligiipjchaaGreatDoor
namespace Go.Proofs.YtdmhligiipjchaaGreatDoor
open Go Go.ChangeShapes Go.WideShapes Go.ChangeAt Go.RowKit Go.Deep Go.Eng
theorem trod_cons {H : Type} {enc : TypeId × Value → H} {P : Program} {w : World} {base : Nat} {sp : Nat → Bool} {hd : Bool} {t : TypeId} {ts : List TypeId} {vs : List Value} {ds : List (DataW H)} {ps : List MemPlace}
    (h : DataW.TrodAll enc P w base sp hd (t :: ts) vs ds ps) : ∃ v vs' d ds' p q, vs = v :: vs' ∧ ds = d :: ds' ∧ DataW.Trod enc P w base sp hd t v d p ∧ DataW.TrodAll enc P w base sp hd ts vs' ds' q := by
  match vs, ds, h with
  | v :: vs', d :: ds', h =>
    obtain ⟨p, q, h1, h2, _⟩ := h
    exact ⟨v, vs', d, ds', p, q, rfl, rfl, h1, h2⟩
theorem trod_end {H : Type} {enc : TypeId × Value → H} {P : Program} {w : World} {base : Nat} {sp : Nat → Bool} {hd : Bool} {vs : List Value} {ds : List (DataW H)} {ps : List MemPlace}
    (h : DataW.TrodAll enc P w base sp hd [] vs ds ps) : vs = [] ∧ ds = [] := by
  match vs, ds, h with
  | [], [], _ => exact ⟨rfl, rfl⟩
theorem all_again {H : Type} {enc : TypeId × Value → H} {W W' : World} {sp' : Nat → Bool} (k : Ext W W') : ∀ {ts : List TypeId} {vs : List Value} {ds : List (DataW H)} {ps : List MemPlace},
    (∀ t ∈ ts, Tryz.prog.readableRec t = true ∧ t < Tryz.prog.types.size) → DataW.TrodAll enc Tryz.prog W 0 (fun _ => true) true ts vs ds ps → (∀ p ∈ ps, p.block < W.heap.size) → (∀ p ∈ ps, sp' p.block = true) → DataW.TrodAll enc Tryz.prog W' 0 sp' true ts vs ds ps
  | [], [], [], _, _, h, _, _ => h
  | t :: ts, v :: vs, d :: ds, ps, hr, h, hl, hs => by
    obtain ⟨p, q, h1, h2, rfl⟩ := h
    refine ⟨p, q, WideElems.Trod_stays cLaid (hr t (by simp)).1 (hr t (by simp)).2 h1 (fun x hx => ?_) (fun x hx => hs x (by simp [hx])), all_again k (fun u hu => hr u (by simp [hu])) h2 (fun x hx => hl x (by simp [hx])) (fun x hx => hs x (by simp [hx])), rfl⟩
    have hb := hl x (by simp [hx])
    cases x with
    | cell b o => exact World.cell?_of_block (k.block b hb)
    | map b => exact k.block b hb
  | [], [], _ :: _, _, _, h, _, _ => h.elim
  | [], _ :: _, _, _, _, h, _, _ => h.elim
  | _ :: _, [], _, _, _, h, _, _ => h.elim
  | _ :: _, _ :: _, [], _, _, h, _, _ => h.elim
set_option maxRecDepth 100000 in
theorem cWit (os : Os) (H : Type) (enc : TypeId × Value → H) : ∃ (w : World) (tape : Tape) (i : Input), w.os = os ∧ (w.forCall tape i).Shaped Tryz.checked.prog ∧ i.vars = [] ∧ Input.okWide Tryz.checked.prog (w.forCall tape i) .any w.heap.size 3 i ∧
      ((Rows.linearMatchesReferenceSpec.pre enc Tryz.checked.prog Tryz.f3 Rows.linearMatchesReferenceRow.domain false (w.forCall tape i).memory i.args ∧ laidMetH Tryz.prog Rows.linearMatchesReferenceRow.laid (w.forCall tape i).memory) ∧ sizedMet enc Tryz.checked.prog Tryz.f3 (OpenSpec.ofChange Rows.linearMatchesReferenceSpec) false (w.forCall tape i).memory i.args) ∧ Assume.holds {} Tryz.checked.prog (lone (Frame.enter Tryz.checked.prog 3 i.args .normal) [] (w.forCall tape i)) :=
  ChangeSpec.witness_shaped (enc := enc) (C := Tryz.checked) (os := os) (X := fun w _ => laidMetH Tryz.prog Rows.linearMatchesReferenceRow.laid w) false (World.laidAll Tryz.prog os Rows.linearMatchesReferenceRow.laid)
    #[.slice none 0 0, .slice none 0 0, .int .i64 0, .int .i64 0, .slice none 0 0, .slice none 0 0] 8 (World.laidAll_os _ _ _)
    (World.shaped_of_ZipB (by kernel_rfl) (by kernel_rfl)) (by kernel_rfl) (by kernel_rfl) (by kernel_rfl)
    (by rw [MakeChecks.laidMetH_plain _ _ _ (by kernel_rfl)]; exact laidMet_laidAll _ (by kernel_rfl) (by kernel_rfl))
end Go.Proofs.YtdmhligiipjchaaGreatDoor
namespace Go.Proofs.YtdmhligiipjchaaGreatDoor
open Go Go.ChangeShapes Go.WideShapes Go.ChangeAt Go.RowKit Go.Deep Go.Eng
theorem cRead : (Tryz.f3.params.toList.all fun t => Tryz.prog.readableRec t && decide (t < Tryz.prog.types.size)) = true := by kernel_rfl
theorem wf64 {n : Int} (h : (Lit.int .i64 n).wf = true) : In64 n := by
  simp only [Lit.wf, Bool.and_eq_true, decide_eq_true_eq] at h
  have e1 : IntKind.i64.min = -9223372036854775808 := rfl
  have e2 : IntKind.i64.max = 9223372036854775807 := rfl
  rw [e1, e2] at h
  unfold In64; omega
theorem reachV : reachBytes = 140737488351232 := rfl
theorem b36 : Tryz.prog.bytesOf 36 = 32 := by kernel_rfl
set_option maxRecDepth 100000 in
theorem lifted (os : Os) (started : os.Started) (H : Type) (enc : TypeId × Value → H) :
    ReturnsInHanded {} Tryz.checked os 3 .any (fun w args => (Rows.linearMatchesReferenceSpec.pre enc Tryz.prog Tryz.f3 Rows.linearMatchesReferenceRow.domain false w args ∧ laidMetH Tryz.prog Rows.linearMatchesReferenceRow.laid w) ∧ sizedMet enc Tryz.prog Tryz.f3 (OpenSpec.ofChange Rows.linearMatchesReferenceSpec) false w args)
      (Rows.linearMatchesReferenceSpec.post enc Tryz.prog Tryz.f3 false true false false) := by
  refine returnsInHanded_of_calls (C := Tryz.checked) cOwn started (by kernel_rfl) (cWit os H enc) ?_
  intro w tape i _ hS _ hok hpre _
  obtain ⟨_, _, _, fn', hfn', _, _, _, _, hval0⟩ := hok
  have e : fn' = Tryz.f3 := Option.some.inj (hfn'.symm.trans Tryz.func3)
  subst e
  obtain ⟨⟨⟨ds, gs, before, hw, hc⟩, hx⟩, hz⟩ := hpre
  have hW : DataW.Whole enc Tryz.prog Tryz.f3.params.toList Rows.linearMatchesReferenceSpec.vars false (w.forCall tape i) i.args.toList ds gs before := DataW.Whole.of_heap (w' := w.forCall tape i) (by rfl) hw
  have hreach := hz.weights hw
  have ht : Tb (w.forCall tape i) := tb_of hS (hx.of_heap (by rfl))
  generalize w.forCall tape i = W at hW ht hval0 ⊢
  generalize w.heap.size = b0 at hval0
  generalize i.args = args at hW hval0 ⊢
  have hval : ∀ (j : Nat) t v, Tryz.f3.params[j]? = some t → args[j]? = some v → Value.okWide Tryz.prog W .any b0 t v := hval0
  have hW' := hW
  obtain ⟨p, q, hA, hV, rfl, _, _⟩ := hW
  obtain ⟨rfl, rfl⟩ := trodVars_none hV
  have hA' := hA
  rw [Tryz.params3] at hA hval
  obtain ⟨args⟩ := args
  obtain ⟨v0, r0, d0, s0, _, _, rfl, rfl, ⟨f0, h0⟩, hA⟩ := trod_cons hA
  obtain ⟨v1, r1, d1, s1, _, _, rfl, rfl, ⟨f1, h1⟩, hA⟩ := trod_cons hA
  obtain ⟨v2, r2, d2, s2, _, _, rfl, rfl, h2, hA⟩ := trod_cons hA
  obtain ⟨v3, r3, d3, s3, _, _, rfl, rfl, h3, hA⟩ := trod_cons hA
  obtain ⟨v4, r4, d4, s4, _, _, rfl, rfl, ⟨f4, h4⟩, hA⟩ := trod_cons hA
  obtain ⟨v5, r5, d5, s5, _, _, rfl, rfl, ⟨f5, h5⟩, hA⟩ := trod_cons hA
  obtain ⟨rfl, rfl⟩ := trod_end hA
  obtain ⟨A0, len0, cap0, rfl⟩ := okWide_slice Tryz.underlying22 (hval 0 22 v0 rfl rfl)
  obtain ⟨A, n, C, Hh, L, hcs, hM⟩ := mat_of h0
  simp only [Value.cells, List.cons.injEq, Value.slice.injEq, and_true] at hcs
  obtain ⟨rfl, rfl, rfl⟩ := hcs
  obtain ⟨B, D, b, rfl, hb, hbl⟩ := fracs_of (hval 1 23 v1 rfl rfl) h1
  obtain ⟨x0, rfl, rfl, _, w0⟩ := open_int Tryz.underlying3 (hval 2 3 v2 rfl rfl) h2
  obtain ⟨x1, rfl, rfl, _, w1⟩ := open_int Tryz.underlying3 (hval 3 3 v3 rfl rfl) h3
  obtain ⟨X, CX, xs, rfl, hx4, hxz, hxl⟩ := ints_of (hval 4 24 v4 rfl rfl) h4
  obtain ⟨Y, CY, ys, rfl, hy, hyz, hyl⟩ := ints_of (hval 5 24 v5 rfl rfl) h5
  have hbl' : b.length * 32 ≤ 140737488355328 := by
    rcases hbl with ⟨_, rfl⟩ | ⟨es, sp, e1, e2⟩
    · simp
    · have := sized_slice hreach (j := 1) (t := 23) (e := 36) (elems := es) (spare := sp) (by rw [show Tryz.f3.params = #[22, 23, 3, 3, 24, 24] from Tryz.params3]; rfl) (congrArg some e1) Tryz.underlying23
      rw [b36, reachV, e2] at this
      omega
  refine (lmr_ok (w := W) hM hb hbl' (wf64 w0) (wf64 w1) hx4 hxz hxl hy hyz hyl ht).mono fun e W' hr => ?_
  match e, hr with
  | .returned v, hr =>
    obtain ⟨k, rfl⟩ := hr
    have hlt := hW'.lt
    refine ChangeSpec.post_blind (P := Tryz.prog) ?_
    refine ⟨_, [], _, [], _, [], hW', trodAll_mk1 (shut_bool Tryz.underlying4 true), all_again k (fun t ht => ?_) hA' (fun x hx => hlt x (by simp [hx])) (fun x hx => ?_), rfl, World.keptBut.congr (World.keptBut_refl _ _) k.os k.output (fun i hi => k.block i hi), fun h => by cases h⟩
    · have := List.all_eq_true.1 cRead t ht
      simpa using this
    · simpa using hlt x (by simp [hx])
theorem row_holds : Rows.LinearMatchesReferenceSaid :=
  OpenClaim.holds_of_wide 3 Tryz.f3 rfl rfl rfl rfl rfl rfl rfl ⟨rfl, rfl, rfl, rfl, rfl⟩ rfl rfl rfl rfl rfl (by kernel_rfl) Tryz.func3 (by kernel_rfl)
    (of_decide_eq_true (by kernel_rfl)) (by unfold Func.isWrapper; first | (rw [if_pos (by decide +kernel)]; kernel_rfl) | (rw [if_neg (by decide +kernel)]; exact ⟨rfl, rfl⟩))
    (fun os started H enc _ => lifted os started H enc)
theorem card_holds : Rows.LinearMatchesReferenceCardSaid :=
  Claim7.holds_tied_plain_at .later [] [.data, .data, .data, .data, .sentinel, .sentinel, .pinned] true (true, "a838cad622e10b3f07372c328cb99379d8369e43f410957b284743b99d527da5") true row_holds (fun _ h => by cases h) (by kernel_rfl) (fun _ h => by cases h) linearMatchesReference_row_tie rfl ⟨rfl, rfl⟩ (by kernel_rfl) rfl
    (fun f fn hf hfn => by
      obtain rfl : f = 3 := Option.some.inj ((show Tryz.prog.funcNamed "yardstick/yardsticklaw13.LinearMatchesReference" = some 3 by kernel_rfl).symm.trans hf) |>.symm
      obtain rfl : fn = Tryz.f3 := (Option.some.inj (Tryz.func3.symm.trans hfn)).symm
      exact ⟨by kernel_rfl, fun j t ht => by
        rw [Tryz.params3] at ht
        have hm : t ∈ [22, 23, 3, 3, 24, 24] := by simpa using Array.mem_of_getElem? ht
        have hall : ([22, 23, 3, 3, 24, 24].all fun u => !Tryz.prog.wantsStandIn u) = true := by kernel_rfl
        exact (show Tryz.prog.wantsStandIn t = false by simpa using List.all_eq_true.1 hall t hm)⟩)
    (by kernel_rfl)
#print axioms card_holds
end Go.Proofs.YtdmhligiipjchaaGreatDoor
