/- Part of the proof that all functions of the layer agree with the reference implementation. -/
import Derived.Test.YtepcnphmfbbhiaaGreatDoorLin20
import Derived.Test.YtepcnphmfbbhiaaGreatDoorEngH
set_option linter.all false
set_option linter.all false
namespace Go.Proofs.YtepcnphmfbbhiaaGreatDoor
open Go Go.Eng Go.RowKit
attribute [local irreducible] wpListIn Code.wpIn Oper.wpIn Exit.then Exit.inBlock Exit.noGoto
set_option maxHeartbeats 40000000
def oN (n : Nat) (o : Option Rows) : Nat := if o.isSome then n else 0
def oR (o : Option Rows) : Rows := o.getD nilR
def oV (o : Option (List R × Bool)) : List R := (o.map (·.1)).getD []
def oB (o : Option (List R × Bool)) : Bool := (o.map (·.2)).getD false
theorem OutM.get {lo n : Nat} {w : World} {o : Option Rows} {v : Value} (h : OutM lo w n o v) :
    ∃ A C H, v = .tuple #[.slice A (oN n o) C, .int .i64 (erI o.isSome)] ∧ Mt w lo A (oN n o) H (oR o) := by
  cases o with
  | none =>
    obtain ⟨A, C, H, e, _, m⟩ := @matR_nil lo w nilR
    cases e; cases h
    exact ⟨none, 0, H, rfl, m⟩
  | some K => obtain ⟨u, rfl, A, C, H, rfl, _, m⟩ := h; exact ⟨A, C, H, rfl, m⟩
theorem OutV.get {lo : Nat} {w : World} {o : Option (List R × Bool)} {v : Value} (h : OutV lo w o v) :
    ∃ P cp, v = .tuple #[.slice P (oV o).length cp, .bool (oB o), .int .i64 (erI o.isSome)] ∧ Rw w lo P (cellsR (oV o)) := by
  cases o with
  | none => cases h; exact ⟨none, 0, rfl, Rw.nil w lo⟩
  | some x => obtain ⟨x, q⟩ := x; exact h
theorem bd_ok {n m : Nat} {L : Rows} (h : OkL n m L) (hn : n ≤ 1000000) (hm : m ≤ 1000000) : Bd n L := ⟨hn, fun i hi => ⟨by rw [(h i hi).1]; exact hm, fun k hk => lenR_ok ((h i hi).2 k (by rw [← (h i hi).1]; exact hk))⟩⟩
theorem bd_nil {L : Rows} : Bd 0 L := ⟨by omega, fun i hi => by omega⟩
section
variable {A B : Option Addr} {C D n m lo lo2 : Nat} {H G : Nat → Value} {L K : Rows} {w : World} {xs : List R}
theorem same_self (hM : Mt w lo A n H L) (hN : Mt w lo2 B n G L) (hB : Bd n L) : Calls Tryz.prog 19 #[.slice A n C, .slice B n D] w (Ret w fun v w' => v = .bool true) := by
  have h := same_ok (C := C) (D := D) hM hN hB
  have e : decide (SameM n L n L) = true := decide_eq_true ⟨rfl, fun _ _ => rfl⟩
  rwa [e] at h
theorem srow_self (hx : Rw w lo A (cellsR xs)) (hy : Rw w lo2 B (cellsR xs)) (hn : xs.length ≤ 1000000) : Calls Tryz.prog 20 #[.slice A xs.length C, .slice B xs.length D] w (Ret w fun v w' => v = .bool true) := by
  have h := srow_ok (C := C) (D := D) hx hy hn
  rwa [decide_eq_true rfl] at h
end
def GoodV (W : World) (hi : Nat) (v : Value) : Prop := ∃ A C H n L, v = .slice A n C ∧ n ≤ C ∧ Few n L ∧ MtU W 0 hi A n H L
structure FamU (W : World) (hi : Nat) (A : Option Addr) (vs : List Value) : Prop where
  rw : RwU W 0 hi A vs
  good : ∀ i, i < vs.length → GoodV W hi (vs.getD i .nilIface)
section
variable {W W' : World} {hi hi' b n : Nat} {A : Option Addr} {vs : List Value} {v : Value}
theorem GoodV.ext (k : Ext W W') (h : GoodV W hi v) : GoodV W' hi v := by obtain ⟨A, C, H, n, L, e, c, f, m⟩ := h; exact ⟨A, C, H, n, L, e, c, f, m.ext k⟩
theorem GoodV.put (k : Put W W' b) (hb : b < 0 ∨ hi ≤ b) (h : GoodV W hi v) : GoodV W' hi v := by obtain ⟨A, C, H, n, L, e, c, f, m⟩ := h; exact ⟨A, C, H, n, L, e, c, f, m.put k hb⟩
theorem FamU.ext (k : Ext W W') (h : FamU W hi A vs) : FamU W' hi A vs := ⟨h.rw.ext k, fun i hi => (h.good i hi).ext k⟩
theorem FamU.put (k : Put W W' b) (hb : b < 0 ∨ hi ≤ b) (h : FamU W hi A vs) : FamU W' hi A vs := ⟨h.rw.put k hb, fun i hi => (h.good i hi).put k hb⟩
theorem GoodV.of {lo : Nat} {L : Rows} (h : MatR lo W v n L) (hf : Few n L) : GoodV W W.heap.size v := by
  obtain ⟨A, C, H, e, c, m⟩ := h; exact ⟨A, C, H, n, L, e, c, hf, MtU.of (m.mono (Nat.zero_le _))⟩
end
def two {α : Type} (a b : α) : Nat → α := fun i => if i = 0 then a else b
theorem mt_two {W : World} {lo lo0 lo1 C c0 c1 : Nat} {A P0 P1 : Option Addr} {l0 l1 : List R} (ho : W.ownsRow lo 26 1 (.slice A 2 C) 2 [.slice P0 l0.length c0, .slice P1 l1.length c1])
    (h0 : Rw W lo0 P0 (cellsR l0)) (h1 : Rw W lo1 P1 (cellsR l1)) (k0 : l0.length ≤ c0) (k1 : l1.length ≤ c1) :
    MtU W 0 W.heap.size A 2 (two (.slice P0 l0.length c0) (.slice P1 l1.length c1)) (two l0 l1) := by
  refine MtU.of ⟨(Rw.of_own ho).mono (Nat.zero_le _), fun i hi => ?_, fun i hi => ?_, fun i hi => ?_⟩ <;> match i, hi with
  | 0, _ => first | rfl | exact h0.mono (Nat.zero_le _) | exact k0
  | 1, _ => first | rfl | exact h1.mono (Nat.zero_le _) | exact k1
theorem fewV_ok {l : List R} {n : Nat} (hn : n ≤ 9) (hl : l.length = n) (h : ∀ k, k < n → okR (rAt l k) = true) : FewV l := ⟨by omega, fun k hk => lenR_ok (h k om)⟩
theorem MatR.get {lo n : Nat} {w : World} {v : Value} {L : Rows} (h : MatR lo w v n L) : ∃ A C H, v = .slice A n C ∧ n ≤ C ∧ Mt w lo A n H L := h
set_option maxRecDepth 100000 in
theorem square_ok {x0 : Int} {lo CX : Nat} {X : Option Addr} {xs : List Int} {w : World} (hx0 : In64 x0) (hx : Rw w lo X (intZ xs)) (hz : ∀ z ∈ xs, In64 z) (hxl : xs.length ≤ 9223372036854775807) :
    Calls Tryz.prog 22 #[.int .i64 (x0), .slice (X) (xs.length) (CX)] w (Ret w fun v w' => ∃ n m L, MatR w.heap.size w' v n L ∧ (1 ≤ n ∧ n ≤ 5) ∧ (1 ≤ m ∧ m ≤ 5) ∧ MakeR n m L ∧ n = m ∧ n ≤ 4 ∧ 1 + pickI x0 4 = (n : Int)) := by
 refine f_in Tryz.func22 rfl ?_;refine go ?_;refine clb en34 (hc := pickL_ok x0 4 _ hx0 om) (hk := ?_);rintro fw fx fi rfl;have e8 := fi.2;have fy := pick_bd x0 4 om;refine go ?_;refine clb en8 (hc := make13_ok (by unfold In64; omega) (by unfold In64; omega) (hx.ext e8) hz hxl) (hk := ?_);rintro f6 f7 fj fk;have e8 := xt e8 fj.2;obtain ⟨fc, fl, fm, ⟨fd, fe, f8, rfl, fo, fp⟩, fq, fu, fg, fh, f9⟩ := fk;have gc := fg.few om om;have fv := MtU.of fp;refine go ?_;exact f_ret1 (t := 4) (v := .slice (fd) (fc) (fe)) rfl e8 ⟨fc, fl, fm, ⟨_, _, _, rfl, fo, (fv).mt.mono om⟩, fq, fu, fg, by omega, by have h4 := pick_bd x0 4 dc; rw [pick_small (c := pickI x0 4) ⟨h4.1, by omega⟩] at fh; omega, by have h4 := pick_bd x0 4 dc; rw [pick_small (c := pickI x0 4) ⟨h4.1, by omega⟩] at fh; omega⟩ rfl
end Go.Proofs.YtepcnphmfbbhiaaGreatDoor
