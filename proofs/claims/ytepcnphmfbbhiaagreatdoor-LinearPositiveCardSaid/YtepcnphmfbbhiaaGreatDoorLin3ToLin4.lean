/- Part of the proof that all functions of the layer agree with the reference implementation. -/
import Derived.Test.YtepcnphmfbbhiaaGreatDoorLinVToLinX
import Derived.Test.YtepcnphmfbbhiaaGreatDoorEngH
import Derived.Test.YtepcnphmfbbhiaaGreatDoorLin2
set_option linter.all false
set_option linter.all false
namespace Go.Proofs.YtepcnphmfbbhiaaGreatDoor
set_option maxRecDepth 100000
open Go Go.Eng Go.RowKit
attribute [local irreducible] wpListIn Code.wpIn Oper.wpIn Exit.then Exit.inBlock Exit.noGoto
set_option maxHeartbeats 40000000
abbrev hdr (H : Nat → Value) (L : Rows) (i : Nat) : Value := .slice (sA (H i)) (L i).length (sC (H i))
theorem ixR_ok {A : Option Addr} {C lo : Nat} {xs : List R} {w : World} (hx : Rw w lo A (cellsR xs)) {gf : Nat} {lb : List Value} {p : Nat → Bool} (hg : Enters Tryz.prog gf) (hf : ∀ i W, i < xs.length → Ext w W → Calls Tryz.prog gf (.agg #[S (rAt xs i).1, S (rAt xs i).2] :: lb).toArray W (Ret W fun v _ => v = .bool (p i))) (hn : xs.length ≤ 1000000) :
    Calls Tryz.prog 113 #[.slice (A) (xs.length) (C), .func (.func gf) #[] lb.toArray] w (Ret w fun v w' => v = .int .i64 (ixI p xs.length)) := by
 refine f_in Tryz.func113 rfl ?_;refine go ?_;have E1 := Ext.refl w;refine c_lp [(4, 5), (8, 18)] (fun kk e W => ∃ i : Nat, (xs.length - i = kk) ∧ (e 8 = .int .i64 i) ∧ (i ≤ xs.length) ∧ (fstI p (xs.length - i) i = fstI p xs.length 0) ∧ (Ext w W)) (xs.length - (0)) ⟨0, rfl, rfl, (Nat.zero_le _), rfl, E1⟩ ?_;rintro kk4 e2 w3 ⟨i, rfl, p5, hi_i, hq, E6⟩;have zw3 := bz E6;by_cases hl_i : i < xs.length;by_cases hp : p i = true;have zq1q := rw_pairF (hx.ext E6) (k := (i)) om;refine go ?_;refine ix2 zq1q ?_;refine go ?_;refine l_op (clV (f := gf) (lb := lb) (vs := [.agg #[S ((rAt xs (i)).1), S ((rAt xs (i)).2)]]) hg rfl rfl (hf i _ hl_i E6) ?_);rintro v7 w8 k9 rfl;have k9 := k9.2;have E6 := xt E6 k9;have zw8 := bz k9;refine go ?_;exact f_ret1 (t := 4) (v := .int .i64 i) rfl E6 (congrArg (Value.int .i64) (ixI_hit hl_i hp hq)) rfl;have hp : p i = false := by simpa using hp
 have zq2q := rw_pairF (hx.ext E6) (k := (i)) om;refine go ?_;refine ix2 zq2q ?_;refine go ?_;refine l_op (clV (f := gf) (lb := lb) (vs := [.agg #[S ((rAt xs (i)).1), S ((rAt xs (i)).2)]]) hg rfl rfl (hf i _ hl_i E6) ?_);rintro v10 w11 k12 rfl;have k12 := k12.2;have E6 := xt E6 k12;have zw11 := bz k12;refine go ?_;refine adi ?_;refine go ?_;exact lend ⟨i + 1, rfl, rfl, om, ((fstI_step hl_i hp).symm.trans hq), E6⟩;refine go ?_;exact f_ret1 (t := 4) (v := .int .i64 ((-1))) rfl E6 (congrArg (Value.int .i64) (ixI_end hl_i hq)) rfl
theorem coR_ok {A : Option Addr} {C lo : Nat} {xs : List R} {w : World} (hx : Rw w lo A (cellsR xs)) {gf : Nat} {lb : List Value} {p : Nat → Bool} (hg : Enters Tryz.prog gf) (hf : ∀ i W, i < xs.length → Ext w W → Calls Tryz.prog gf (.agg #[S (rAt xs i).1, S (rAt xs i).2] :: lb).toArray W (Ret W fun v _ => v = .bool (p i))) (hn : xs.length ≤ 1000000) :
    Calls Tryz.prog 83 #[.slice (A) (xs.length) (C), .func (.func gf) #[] lb.toArray] w (Ret w fun v w' => v = .bool (decide (fstI p xs.length 0 < xs.length))) := by
 refine f_in Tryz.func83 rfl ?_;refine go ?_;refine cl en116 (ixR_ok (hx.ext (Ext.refl _)) hg (fun i W hi hE => hf i W hi (xt (Ext.refl _) hE)) hn) ?_;rintro v15 w13 k14 rfl;have E16 := k14.2;refine go ?_;exact f_ret1 (t := 4) (v := .bool (decide (0 ≤ (ixI p xs.length)))) rfl E16 (congrArg Value.bool (ixI_geq _ _)) rfl
theorem ixS_ok {A : Option Addr} {C n lo : Nat} {H : Nat → Value} {L : Rows} {w : World} (hM : Mt w lo A n H L) {gf : Nat} {lb : List Value} {p : Nat → Bool} (hg : Enters Tryz.prog gf) (hf : ∀ i W, i < n → Ext w W → Calls Tryz.prog gf (hdr H L i :: lb).toArray W (Ret W fun v _ => v = .bool (p i))) (hn : n ≤ 1000000) :
    Calls Tryz.prog 103 #[.slice (A) (n) (C), .func (.func gf) #[] lb.toArray] w (Ret w fun v w' => v = .int .i64 (ixI p n)) := by
 refine f_in Tryz.func103 rfl ?_;refine go ?_;have E17 := Ext.refl w;refine c_lp [(4, 5), (8, 18)] (fun kk e W => ∃ i : Nat, (n - i = kk) ∧ (e 8 = .int .i64 i) ∧ (i ≤ n) ∧ (fstI p (n - i) i = fstI p n 0) ∧ (Ext w W)) (n - (0)) ⟨0, rfl, rfl, (Nat.zero_le _), rfl, E17⟩ ?_;rintro kk20 e18 w19 ⟨i, rfl, p21, hi_i, hq, E22⟩;have zw19 := bz E22;by_cases hl_i : i < n;by_cases hp : p i = true;have zq3q := Mt.cell (hM.ext E22) (i := (i)) om;refine go ?_;refine ix1 zq3q ?_;refine go ?_;refine l_op (clV (f := gf) (lb := lb) (vs := [.slice (sA (H (i))) ((L (i)).length) (sC (H (i)))]) hg rfl rfl (hf i _ hl_i E22) ?_);rintro v23 w24 k25 rfl;have k25 := k25.2;have E22 := xt E22 k25;have zw24 := bz k25;refine go ?_;exact f_ret1 (t := 4) (v := .int .i64 i) rfl E22 (congrArg (Value.int .i64) (ixI_hit hl_i hp hq)) rfl;have hp : p i = false := by simpa using hp
 have zq4q := Mt.cell (hM.ext E22) (i := (i)) om;refine go ?_;refine ix1 zq4q ?_;refine go ?_;refine l_op (clV (f := gf) (lb := lb) (vs := [.slice (sA (H (i))) ((L (i)).length) (sC (H (i)))]) hg rfl rfl (hf i _ hl_i E22) ?_);rintro v26 w27 k28 rfl;have k28 := k28.2;have E22 := xt E22 k28;have zw27 := bz k28;refine go ?_;refine adi ?_;refine go ?_;exact lend ⟨i + 1, rfl, rfl, om, ((fstI_step hl_i hp).symm.trans hq), E22⟩;refine go ?_;exact f_ret1 (t := 4) (v := .int .i64 ((-1))) rfl E22 (congrArg (Value.int .i64) (ixI_end hl_i hq)) rfl
theorem coS_ok {A : Option Addr} {C n lo : Nat} {H : Nat → Value} {L : Rows} {w : World} (hM : Mt w lo A n H L) {gf : Nat} {lb : List Value} {p : Nat → Bool} (hg : Enters Tryz.prog gf) (hf : ∀ i W, i < n → Ext w W → Calls Tryz.prog gf (hdr H L i :: lb).toArray W (Ret W fun v _ => v = .bool (p i))) (hn : n ≤ 1000000) :
    Calls Tryz.prog 75 #[.slice (A) (n) (C), .func (.func gf) #[] lb.toArray] w (Ret w fun v w' => v = .bool (decide (fstI p n 0 < n))) := by
 refine f_in Tryz.func75 rfl ?_;refine go ?_;refine cl en89 (ixS_ok (hM.ext (Ext.refl _)) hg (fun i W hi hE => hf i W hi (xt (Ext.refl _) hE)) hn) ?_;rintro v31 w29 k30 rfl;have E32 := k30.2;refine go ?_;exact f_ret1 (t := 4) (v := .bool (decide (0 ≤ (ixI p n)))) rfl E32 (congrArg Value.bool (ixI_geq _ _)) rfl
theorem ixM_ok {A : Option Addr} {C n lo : Nat} {H : Nat → Value} {L : Rows} {w : World} (hM : Mt w lo A n H L) {gf : Nat} {lb : List Value} {p : Nat → Bool} (hg : Enters Tryz.prog gf) (hf : ∀ i W, i < n → Ext w W → Calls Tryz.prog gf (hdr H L i :: lb).toArray W (Ret W fun v _ => v = .bool (p i))) (hn : n ≤ 1000000) :
    Calls Tryz.prog 86 #[.slice (A) (n) (C), .func (.func gf) #[] lb.toArray] w (Ret w fun v w' => v = .int .i64 (ixI p n)) := by
 refine f_in Tryz.func86 rfl ?_;refine go ?_;have E33 := Ext.refl w;refine c_lp [(4, 5), (8, 18)] (fun kk e W => ∃ i : Nat, (n - i = kk) ∧ (e 8 = .int .i64 i) ∧ (i ≤ n) ∧ (fstI p (n - i) i = fstI p n 0) ∧ (Ext w W)) (n - (0)) ⟨0, rfl, rfl, (Nat.zero_le _), rfl, E33⟩ ?_;rintro kk36 e34 w35 ⟨i, rfl, p37, hi_i, hq, E38⟩;have zw35 := bz E38;by_cases hl_i : i < n;by_cases hp : p i = true;have zq5q := Mt.cell (hM.ext E38) (i := (i)) om;refine go ?_;refine ix1 zq5q ?_;refine go ?_;refine l_op (clV (f := gf) (lb := lb) (vs := [.slice (sA (H (i))) ((L (i)).length) (sC (H (i)))]) hg rfl rfl (hf i _ hl_i E38) ?_);rintro v39 w40 k41 rfl;have k41 := k41.2;have E38 := xt E38 k41;have zw40 := bz k41;refine go ?_;exact f_ret1 (t := 4) (v := .int .i64 i) rfl E38 (congrArg (Value.int .i64) (ixI_hit hl_i hp hq)) rfl;have hp : p i = false := by simpa using hp
 have zq6q := Mt.cell (hM.ext E38) (i := (i)) om;refine go ?_;refine ix1 zq6q ?_;refine go ?_;refine l_op (clV (f := gf) (lb := lb) (vs := [.slice (sA (H (i))) ((L (i)).length) (sC (H (i)))]) hg rfl rfl (hf i _ hl_i E38) ?_);rintro v42 w43 k44 rfl;have k44 := k44.2;have E38 := xt E38 k44;have zw43 := bz k44;refine go ?_;refine adi ?_;refine go ?_;exact lend ⟨i + 1, rfl, rfl, om, ((fstI_step hl_i hp).symm.trans hq), E38⟩;refine go ?_;exact f_ret1 (t := 4) (v := .int .i64 ((-1))) rfl E38 (congrArg (Value.int .i64) (ixI_end hl_i hq)) rfl
theorem coM_ok {A : Option Addr} {C n lo : Nat} {H : Nat → Value} {L : Rows} {w : World} (hM : Mt w lo A n H L) {gf : Nat} {lb : List Value} {p : Nat → Bool} (hg : Enters Tryz.prog gf) (hf : ∀ i W, i < n → Ext w W → Calls Tryz.prog gf (hdr H L i :: lb).toArray W (Ret W fun v _ => v = .bool (p i))) (hn : n ≤ 1000000) :
    Calls Tryz.prog 47 #[.slice (A) (n) (C), .func (.func gf) #[] lb.toArray] w (Ret w fun v w' => v = .bool (decide (fstI p n 0 < n))) := by
 refine f_in Tryz.func47 rfl ?_;refine go ?_;refine cl en77 (ixM_ok (hM.ext (Ext.refl _)) hg (fun i W hi hE => hf i W hi (xt (Ext.refl _) hE)) hn) ?_;rintro v47 w45 k46 rfl;have E48 := k46.2;refine go ?_;exact f_ret1 (t := 4) (v := .bool (decide (0 ≤ (ixI p n)))) rfl E48 (congrArg Value.bool (ixI_geq _ _)) rfl
end Go.Proofs.YtepcnphmfbbhiaaGreatDoor
set_option linter.all false
namespace Go.Proofs.YtepcnphmfbbhiaaGreatDoor
set_option maxRecDepth 100000
open Go Go.Eng Go.RowKit
attribute [local irreducible] wpListIn Code.wpIn Oper.wpIn Exit.then Exit.inBlock Exit.noGoto
set_option maxHeartbeats 40000000
section
variable {P : Program} {r : Option Nat} {n N : Nat} {e : Nat → Value} {ds : List Deferred} {w : World} {Q : Exit → Act → World → Prop} {K : Act → World → Prop}
variable {d ty : Nat} {pos : String} {af : Array Edge} {g : Option (Nat × Bool)} {v u : Value} {x y : Operand} {t t' : TypeId}
theorem k_eqlNil {el m c m' c' : Nat} {A : Option Addr} (hu : P.underlying t = some (.slice el)) (hx : ev N e x = .slice A m c) (hy : ev N e y = .slice none m' c') (hk : K (act N (upd e d (.bool A.isNone)) ds) w) :
    Oper.wpIn (Fw r) n P ⟨some d, .binOp .eql t x y t', ty, pos, af, g⟩ (act N e ds) w K Q := by
  refine k_bin hx hy ?_ ?_ hk
  · unfold eqGuard; simp
  · have : (Op.equal t (.slice A m c) (.slice none m' c')).run P w = .ok A.isNone w := by
      unfold Op.equal Op.maxDepth
      show (Op.equalIn (9999 + 1) t _ _).run _ _ = _
      unfold Op.equalIn
      cases A <;> simp [run_underlying hu]
    simp [binOp, this]
end
theorem clone_0 {lo c : Nat} {xs : List R} {w : World} (hx : Rw w lo (none) (cellsR xs)) (hl : xs.length ≤ 1000000) :
    Calls Tryz.prog 59 #[.slice (none) (xs.length) (c)] w (Ret w fun v w' => World.ownsRow w' w.heap.size 41 2 v xs.length (cellsR xs)) := by
 refine f_in Tryz.func59 rfl ?_;refine go ?_;refine l_op (k_eqlNil (A := none) U23 rfl rfl ?_);refine go ?_;(try refine c_true (congrArg Value.bool rfl) ?_);refine go ?_;exact f_ret1 (t := 2) (v := .slice (none) (0) (0)) rfl (Ext.refl _) (by have := hx.cells; cases xs with | nil => exact own_nil | cons a l => obtain ⟨b, o, h, _⟩ := this 0 _ rfl; cases h) rfl
theorem clone_1 {ad : Addr} {lo c : Nat} {xs : List R} {w : World} (hx : Rw w lo (some ad) (cellsR xs)) (hl : xs.length ≤ 1000000) :
    Calls Tryz.prog 59 #[.slice (some ad) (xs.length) (c)] w (Ret w fun v w' => World.ownsRow w' w.heap.size 41 2 v xs.length (cellsR xs)) := by
 refine f_in Tryz.func59 rfl ?_;refine go ?_;refine l_op (k_eqlNil (A := some ad) U23 rfl rfl ?_);refine go ?_;(try refine c_false (congrArg Value.bool rfl) ?_);refine go ?_;refine l_op (k_build0 U23 inf36 (fun fi fc fj fd => ?_));have e8 := fc;have fk := bz fc;refine go ?_;refine l_op (k_append (v := .slice (some ⟨w.heap.size, 0, none⟩) (0) (0)) (k := 0) (m := xs.length) (news := cellsR xs) U23 inf36 rfl dc rfl fd rfl (hx.ext e8) (cellsR_len _) cellsR_one (by simp only [maxLen]; omega) om om (fun fe fl fg fh fm => ?_));have e8 := low_app fd om om e8 fh;have fo := fh.size;rw [List.nil_append] at fg;refine l_op (k_assign (v := fe) rfl ?_);refine go ?_;exact f_ret1 (t := 2) (v := fe) rfl e8 (own_cast fg (Nat.zero_add _) rfl) rfl
theorem clone_ok {A : Option Addr} {lo c : Nat} {xs : List R} {w : World} (hx : Rw w lo A (cellsR xs)) (hl : xs.length ≤ 1000000) :
    Calls Tryz.prog 59 #[.slice A xs.length c] w (Ret w fun v w' => World.ownsRow w' w.heap.size 41 2 v xs.length (cellsR xs)) := by
  cases A with
  | none => exact clone_0 hx hl
  | some ad => exact clone_1 hx hl
end Go.Proofs.YtepcnphmfbbhiaaGreatDoor
