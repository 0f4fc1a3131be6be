/- Part of the proof of a statement about the special functions. -/
import Derived.Test.YtjijfnggomhpiaaGreatDoorSp16ToLaw2
import Derived.Test.YtjijfnggomhpiaaGreatDoorTie
import Derived.Test.YtjijfnggomhpiaaGreatDoorCards
import Derived.ProofKit
import Derived.OpenShut
import Derived.LaidMore
import Derived.Lay
import Derived.SevenTiedAt
import Derived.Stop.Joined
import Derived.Deep.SlicePairs
import Derived.Deep.Frames
import Derived.Deep.Onto
import Derived.WideKeyArgs
import Derived.SizedLaws
set_option linter.all false
namespace Go.Proofs.YtjijfnggomhpiaaGreatDoor
open Go Go.ChangeShapes Go.WideShapes Go.ChangeAt Go.RowKit Go.Deep Go.Eng
theorem cOwn : ownKnob Tryz.prog.godebug = none := by kernel_rfl
theorem cLaid : laidOutB Tryz.prog = true := by kernel_rfl
theorem c3 : Tryz.prog.cellsOf 3 = 1 := by kernel_rfl
theorem c88 : Tryz.prog.cellsOf 22 = 2 := by kernel_rfl
theorem gPow : Tryz.prog.globalNamed "internal/strconv.uint64pow10" = some 4 := by kernel_rfl
theorem tPow : (Tryz.prog.globals[4]?).map (·.type) = some 213 := by kernel_rfl
theorem zPow0 : (((begin Tryz.prog (fun _ _ => 0) default).world.heap[4]?).bind Obj.row?).map (·.2) = some 213 := by kernel_rfl
theorem zPow : ∃ z, (((begin Tryz.prog (fun _ _ => 0) default).world.heap[4]?).bind Obj.row?) = some (z, 213) := by
  obtain ⟨⟨z, t⟩, h, e⟩ := Option.map_eq_some_iff.1 zPow0
  cases e; exact ⟨z, h⟩
theorem nPow : 4 < Tryz.prog.globals.size := of_decide_eq_true (by kernel_rfl)
theorem lPow : Rows.laid_internal_strconv_uint64pow10 = (.agg (Lib.pow10Tab.map fun z => DataW.lit (.int .u64 z)) : DataW Unit) := by kernel_rfl
theorem cU : Tryz.prog.cellsOf 164 = 1 := by kernel_rfl
theorem uU : Tryz.prog.underlying 164 = some (.int .u64) := by kernel_rfl
theorem cA : Tryz.prog.cellsOf 213 = 20 := by kernel_rfl
theorem kPow : Lib.pow10Tab.length = 20 := by kernel_rfl
theorem trod_cons {H : Type} {enc : TypeId × Value → H} {P : Program} {w : World} {base : Nat} {sp : Nat → Bool} {hd : Bool} {t : TypeId} {ts : List TypeId} {vs : List Value} {ds : List (DataW H)} {ps : List MemPlace}
    (h : DataW.TrodAll enc P w base sp hd (t :: ts) vs ds ps) : ∃ v vs' d ds' p q, vs = v :: vs' ∧ ds = d :: ds' ∧ DataW.Trod enc P w base sp hd t v d p ∧ DataW.TrodAll enc P w base sp hd ts vs' ds' q := by
  match vs, ds, h with
  | v :: vs', d :: ds', h =>
    obtain ⟨p, q, h1, h2, _⟩ := h
    exact ⟨v, vs', d, ds', p, q, rfl, rfl, h1, h2⟩
theorem trod_end {H : Type} {enc : TypeId × Value → H} {P : Program} {w : World} {base : Nat} {sp : Nat → Bool} {hd : Bool} {vs : List Value} {ds : List (DataW H)} {ps : List MemPlace}
    (h : DataW.TrodAll enc P w base sp hd [] vs ds ps) : vs = [] ∧ ds = [] := by
  match vs, ds, h with
  | [], [], _ => exact ⟨rfl, rfl⟩
theorem all_again {H : Type} {enc : TypeId × Value → H} {W W' : World} {sp' : Nat → Bool} (k : Ext W W') : ∀ {ts : List TypeId} {vs : List Value} {ds : List (DataW H)} {ps : List MemPlace},
    (∀ t ∈ ts, Tryz.prog.readableRec t = true ∧ t < Tryz.prog.types.size) → DataW.TrodAll enc Tryz.prog W 0 (fun _ => true) true ts vs ds ps → (∀ p ∈ ps, p.block < W.heap.size) → (∀ p ∈ ps, sp' p.block = true) → DataW.TrodAll enc Tryz.prog W' 0 sp' true ts vs ds ps
  | [], [], [], _, _, h, _, _ => h
  | t :: ts, v :: vs, d :: ds, ps, hr, h, hl, hs => by
    obtain ⟨p, q, h1, h2, rfl⟩ := h
    refine ⟨p, q, WideElems.Trod_stays cLaid (hr t (by simp)).1 (hr t (by simp)).2 h1 (fun x hx => ?_) (fun x hx => hs x (by simp [hx])), all_again k (fun u hu => hr u (by simp [hu])) h2 (fun x hx => hl x (by simp [hx])) (fun x hx => hs x (by simp [hx])), rfl⟩
    have hb := hl x (by simp [hx])
    cases x with
    | cell b o => exact World.cell?_of_block (k.block b hb)
    | map b => exact k.block b hb
  | [], [], _ :: _, _, _, h, _, _ => h.elim
  | [], _ :: _, _, _, _, h, _, _ => h.elim
  | _ :: _, [], _, _, _, h, _, _ => h.elim
  | _ :: _, _ :: _, [], _, _, h, _, _ => h.elim
theorem wf64 {n : Int} (h : (Lit.int .i64 n).wf = true) : In64 n := by
  simp only [Lit.wf, Bool.and_eq_true, decide_eq_true_eq] at h
  have e1 : IntKind.i64.min = -9223372036854775808 := rfl
  have e2 : IntKind.i64.max = 9223372036854775807 := rfl
  rw [e1, e2] at h
  unfold In64; omega
section
variable {H : Type} {enc : TypeId × Value → H} {W : World} {base fuel b0 : Nat} {x : DataW H × List MemPlace}
set_option maxRecDepth 100000 in
theorem pair_of {v : Value} (hv : Value.okWide Tryz.prog W .any b0 22 v) (h : DataW.trod enc Tryz.prog W base (fun _ => true) true fuel 22 v.cells.toList = some x) :
    ∃ a b : Int, v = .agg #[.int .i64 a, .int .i64 b] ∧ In64 a ∧ In64 b := by
  unfold Value.okWide at hv
  rw [Tryz.underlying22] at hv
  obtain ⟨cs, rfl, hs, _⟩ := hv
  rw [c88] at hs
  obtain ⟨xs, m, _, _, _, hl, hx⟩ := DataW.trod_array Tryz.underlying22 h
  obtain ⟨l⟩ := cs
  match l, hs with
  | [u, v], _ =>
    have h0 := hx 0 (by decide)
    have h1 := hx 1 (by decide)
    rw [c3] at h0 h1
    rw [List.getElem?_eq_getElem (show 0 < xs.length by omega)] at h0
    rw [List.getElem?_eq_getElem (show 1 < xs.length by omega)] at h1
    obtain ⟨a, ea, _, wa⟩ := DataW.trod_int Tryz.underlying3 h0
    obtain ⟨b, eb, _, wb⟩ := DataW.trod_int Tryz.underlying3 h1
    have ea : u = .int .i64 a := by simpa [Value.cells] using ea
    have eb : v = .int .i64 b := by simpa [Value.cells] using eb
    exact ⟨a, b, by rw [ea, eb], wf64 wa, wf64 wb⟩
end
end Go.Proofs.YtjijfnggomhpiaaGreatDoor
