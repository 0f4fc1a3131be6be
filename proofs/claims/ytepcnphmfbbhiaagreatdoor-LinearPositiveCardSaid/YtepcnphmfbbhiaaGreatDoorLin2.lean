/- Part of the proof that all functions of the layer agree with the reference implementation. -/
import Derived.Test.YtepcnphmfbbhiaaGreatDoorLin1
import Derived.Test.YtepcnphmfbbhiaaGreatDoorEngH
set_option linter.all false
set_option linter.all false
namespace Go.Proofs.YtepcnphmfbbhiaaGreatDoor
open Go Go.Eng Go.RowKit
attribute [local irreducible] wpListIn Code.wpIn Oper.wpIn Exit.then Exit.inBlock Exit.noGoto
set_option maxHeartbeats 40000000
theorem hoCell {W : World} {A : Option Addr} {lo hi n i : Nat} {H : Nat → Value} {L : Nat → List R} (h : Ho W A n H) (hw : Wr W lo hi n H L) (hi' : i < n) :
    A = some ⟨bkOf A, ofOf A, none⟩ ∧ W.cell? ⟨bkOf A, ofOf A + i, none⟩ = some (.slice (sA (H i)) (L i).length (sC (H i))) := by
  rw [← hw.hdr hi']; exact h.cell hi'
def swV (p r : Nat) (H : Nat → Value) : Nat → Value := fun i => H (swF p r i)
theorem swap_ho {W : World} {A : Option Addr} {lo hi n p r : Nat} {H : Nat → Value} {L : Nat → List R} (hw : Wr W lo hi n H L) (hp : p < n) (hr : r < n)
    (h : Ho W A n (updF (updF H p (.slice (sA (H r)) (L r).length (sC (H r)))) r (.slice (sA (H p)) (L p).length (sC (H p))))) : Ho W A n (swV p r H) := by
  refine h.congr fun i hi => ?_
  unfold swV
  rw [← hw.hdr hp, ← hw.hdr hr]
  unfold swF updF
  by_cases h1 : i = r
  · subst h1; by_cases h2 : i = p <;> simp [h2]
  · by_cases h2 : i = p
    · subst h2; simp [h1]
    · simp [h1, h2]
theorem r4MulR (a b : R) (w : World) (ha : lenR a) (hb : lenR b) : Calls Tryz.prog 37 #[.agg #[S a.1, S a.2], .agg #[S b.1, S b.2]] w (Ret w fun v _ => v = resR (mulR a b)) := r4Mul_ok a.1 a.2 b.1 b.2 w ha.1 ha.2 hb.1 hb.2
def RowR (w : World) (lo : Nat) (v : Value) (l : List R) : Prop := v = .slice (sA v) l.length (sC v) ∧ Rw w lo (sA v) (cellsR l)
def RowI (w : World) (lo : Nat) (v : Value) (l : List Nat) : Prop := v = .slice (sA v) l.length (sC v) ∧ Rw w lo (sA v) (ints l)
def StR (lo n : Nat) (w : World) (s : El) (last : Value) (v : Value) : Prop :=
  ∃ A C H vp vc, v = .agg #[.slice A n C, vp, vc, last] ∧ n ≤ C ∧ Mt w lo A n H s.L ∧ RowR w lo vp s.piv ∧ RowI w lo vc s.cols
theorem updF_self {α : Type} (f : Nat → α) (i : Nat) : updF f i (f i) = f := funext fun j => by unfold updF; split <;> simp_all
end Go.Proofs.YtepcnphmfbbhiaaGreatDoor
