/- Part of the proof that all functions of the layer agree with the reference implementation. -/
import Derived.Test.YtepcnphmfbbhiaaGreatDoorLin17ToLin18
import Derived.Test.YtepcnphmfbbhiaaGreatDoorEngH
set_option linter.all false
set_option linter.all false
namespace Go.Proofs.YtepcnphmfbbhiaaGreatDoor
open Go Go.Eng Go.RowKit
attribute [local irreducible] wpListIn Code.wpIn Oper.wpIn Exit.then Exit.inBlock Exit.noGoto
set_option maxHeartbeats 40000000
structure Mt0 (W : World) (A : Option Addr) (n : Nat) (H : Nat → Value) (L : Rows) : Prop where
  cell : ∀ {i}, i < n → A = some ⟨bkOf A, ofOf A, none⟩ ∧ W.cell? ⟨bkOf A, ofOf A + i, none⟩ = some (.slice (sA (H i)) (L i).length (sC (H i)))
  elem : ∀ {i k}, i < n → k < (L i).length → sA (H i) = some ⟨bkOf (sA (H i)), ofOf (sA (H i)), none⟩ ∧ ∀ j u, [S (rAt (L i) k).1, S (rAt (L i) k).2][j]? = some u → W.cell? ⟨bkOf (sA (H i)), ofOf (sA (H i)) + k * 2 + j, none⟩ = some u
theorem Mt0.ext {W W' : World} {A : Option Addr} {n : Nat} {H : Nat → Value} {L : Rows} (k : Ext W W') (h : Mt0 W A n H L) : Mt0 W' A n H L :=
  ⟨fun hi => ⟨(h.cell hi).1, k.cell (h.cell hi).2⟩, fun hi hk => ⟨(h.elem hi hk).1, fun j u hu => k.cell ((h.elem hi hk).2 j u hu)⟩⟩
theorem Mt.z {W : World} {lo : Nat} {A : Option Addr} {n : Nat} {H : Nat → Value} {L : Rows} (h : Mt W lo A n H L) : Mt0 W A n H L := ⟨fun hi => h.cell hi, fun hi hk => h.elem hi hk⟩
def Few (n : Nat) (L : Rows) : Prop := n ≤ 9 ∧ ∀ i, i < n → (L i).length ≤ 9 ∧ ∀ k, k < (L i).length → lenR (rAt (L i) k)
theorem Few.bd {n : Nat} {L : Rows} (h : Few n L) : Bd n L := ⟨by have := h.1; omega, fun i hi => ⟨by have := (h.2 i hi).1; omega, (h.2 i hi).2⟩⟩
def FewV (l : List R) : Prop := l.length ≤ 9 ∧ ∀ k, k < l.length → lenR (rAt l k)
theorem FewV.bd {l : List R} (h : FewV l) : BdV l := ⟨by have := h.1; omega, h.2⟩
set_option maxRecDepth 100000 in
theorem n13_ok (a b : Int) (w : World) (ha : -1000 ≤ a ∧ a ≤ 1000) (hb : -1000 ≤ b ∧ b ≤ 1000) :
    Calls Tryz.prog 33 #[.int .i64 (a), .int .i64 (b)] w (Ret w fun v w' => v = .agg #[S (rN (mk4 (showI a) (showI b))), S (rD (mk4 (showI a) (showI b)))]) := by
 refine f_in Tryz.func33 rfl ?_;refine go ?_;refine al inf36 (fun fo fk fc => ?_);have e8 := fk.2;refine go ?_;refine clb en32 (hc := of_ok a b _ om om) (hk := ?_);rintro fp fh fi rfl;have fc := be fi.2 fc;have e8 := xt e8 fi.2;refine go ?_;refine al inf36 (fun fq fj fl => ?_);have fc := be fj.2 fc;have e8 := xt e8 fj.2;refine SA fl (fun fu fd fe => ?_);have fc := pb fd fc;have e8 := plw fd e8;have fv := psz fd;refine go ?_;refine SA fc (fun fw fg fm => ?_);have fe := pb fg fe;have e8 := plw fg e8;have fx := psz fg;refine go ?_;refine f_out (v := .agg #[S (rN (mk4 (showI a) (showI b))), S (rD (mk4 (showI a) (showI b)))]) (res1  rfl ?_) e8 rfl;refine res_cellA (t := 4) (cs := [S (rN (mk4 (showI a) (showI b))), S (rD (mk4 (showI a) (showI b)))]) (b := w.heap.size) (o := 0) U36 rfl sz36 ?_ ?_;exact rfl;exact Blk.cells fm (i := 0) rfl
end Go.Proofs.YtepcnphmfbbhiaaGreatDoor
