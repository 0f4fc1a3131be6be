/- Part of the proof that all functions of the layer agree with the reference implementation. -/
import Derived.Test.YtepcnphmfbbhiaaGreatDoorLin22
import Derived.Test.YtepcnphmfbbhiaaGreatDoorLaGToLaL
import Derived.Test.YtepcnphmfbbhiaaGreatDoorEngH
set_option linter.all false
set_option linter.all false
namespace Go.Proofs.YtepcnphmfbbhiaaGreatDoor
open Go Go.Eng Go.RowKit
attribute [local irreducible] wpListIn Code.wpIn Oper.wpIn Exit.then Exit.inBlock Exit.noGoto
set_option maxHeartbeats 40000000
section
variable {f : FuncId} {a : Array Value} {w : World} {lo n m : Nat}
theorem cEq {X Y : Value} (h : Calls Tryz.prog f a w (Ret w fun v _ => v = X)) (e : X = Y) : Calls Tryz.prog f a w (Ret w fun v _ => v = Y) := e ▸ h
theorem cOutM {o o' : Option Rows} (h : Calls Tryz.prog f a w (Ret w fun v w' => OutM lo w' n o v)) (e : o = o') : Calls Tryz.prog f a w (Ret w fun v w' => OutM lo w' n o' v) := e ▸ h
theorem cOutV {o o' : Option (List R × Bool)} (h : Calls Tryz.prog f a w (Ret w fun v w' => OutV lo w' o v)) (e : o = o') : Calls Tryz.prog f a w (Ret w fun v w' => OutV lo w' o' v) := e ▸ h
theorem cMat {L : Rows} (h : Calls Tryz.prog f a w (Ret w fun v w' => MatR lo w' v n L)) (e : n = m) : Calls Tryz.prog f a w (Ret w fun v w' => MatR lo w' v m L) := e ▸ h
end
set_option maxRecDepth 100000 in
theorem linearRank_law {x0 x1 x2 : Int} {X Y : Option Addr} {CX CY lo1 lo2 : Nat} {xs ys : List Int} {w : World} (hx0 : In64 x0) (hx1 : In64 x1) (hx2 : In64 x2) (hx : Rw w lo1 X (intZ xs)) (hxz : ∀ z ∈ xs, In64 z) (hxl : xs.length ≤ 9223372036854775807) (hy : Rw w lo2 Y (intZ ys)) (hyz : ∀ z ∈ ys, In64 z) (hyl : ys.length ≤ 9223372036854775807) (ht : Tb w) :
    Calls Tryz.prog 5 #[.int .i64 (x0), .int .i64 (x1), .int .i64 (x2), .slice (X) (xs.length) (CX), .slice (Y) (ys.length) (CY)] w (Ret w fun v w' => v = .bool true) := by
 refine f_in Tryz.func5 rfl ?_;refine go ?_;refine cl en4 (sane_ok (ht.ext (Ext.refl _))) ?_;rintro c5 c6 bo rfl;have ab := bo.2;refine go ?_;refine cl en8 (make13_ok hx0 hx1 (hx.ext ab) hxz hxl) ?_;rintro c7 c8 br bu;have ab := xt ab br.2;obtain ⟨ag, bv, au, ⟨ak, ao, ay, rfl, da, bw⟩, db, de, bi, df, dg⟩ := bu;have bf := bi.few om om;have ah := MtU.of bw;refine go ?_;refine cl en8 (make13_ok hx1 hx2 (hy.ext ab) hyz hyl) ?_;rintro dh di bj b4;have ah := MtU.ext bj.2 ah;have ab := xt ab bj.2;obtain ⟨aj, dj, dk, ⟨aq, ar, dl, rfl, dm, b5⟩, dn, dp, bm, dq, dr⟩ := b4;have bn := bm.few om om;have am := MtU.of b5;have b6 : aj = bv := by omega
 subst b6;obtain ⟨b7, aa, ai, ae, b8, b9, ca, cd, ce, cg, cj, ck, cn, dt, du, dv, dw, dx⟩ := rank_law om om om om om om bi bm;refine go ?_;refine cl en27 (cOutM (o' := some b7) (lmul_ok (ah).mt bf.bd (am).mt bn.bd (ht.ext ab)) b8) ?_;rintro dy dz bg ⟨d6, rfl, av, aw, d7, rfl, d8, ct⟩;have ah := MtU.ext bg.2 ah;have am := MtU.ext bg.2 am;have ab := xt ab bg.2;have ap := MtU.of ct;refine go ?_;refine clb en10 (hc := cEq (Y := .tuple #[.int .i64 aa, .int .i64 (0)]) (lrank_ok (ah).mt bf.bd (ht.ext ab)) (by rw [ca]; rfl)) (hk := ?_);rintro d9 ee az rfl;have ah := MtU.ext az.2 ah;have am := MtU.ext az.2 am;have ap := MtU.ext az.2 ap;have ab := xt ab az.2;refine go ?_;refine clb en10 (hc := cEq (Y := .tuple #[.int .i64 ai, .int .i64 (0)]) (lrank_ok (am).mt bn.bd (ht.ext ab)) (by rw [cd]; rfl)) (hk := ?_);rintro ef eh a7 rfl;have ah := MtU.ext a7.2 ah;have ap := MtU.ext a7.2 ap;have ab := xt ab a7.2;refine go ?_;refine clb en10 (hc := cEq (Y := .tuple #[.int .i64 ae, .int .i64 (0)]) (lrank_ok (ap).mt (bd_of b9 om om) (ht.ext ab)) (by rw [ce]; rfl)) (hk := ?_);rintro ei ej a8 rfl;have ah := MtU.ext a8.2 ah;have ab := xt ab a8.2;refine go ?_;refine clb en21 (hc := cMat (m := aj) (tr_ok (ah).mt bf.bd (ht.ext ab)) (by rw [if_pos ck]; exact cn)) (hk := ?_);rintro ek em bc ⟨cu, cz, eo, rfl, eu, c4⟩;have ah := MtU.ext bc.2 ah;have ab := xt ab bc.2
 have bh := MtU.of c4;refine clb en10 (hc := cEq (Y := .tuple #[.int .i64 aa, .int .i64 (0)]) (lrank_ok (bh).mt (bd_of cg om om) (ht.ext ab)) (by rw [cj]; rfl)) (hk := ?_);rintro ew ez ax rfl;have ah := MtU.ext ax.2 ah;have ab := xt ab ax.2;have zq1q := Mt.cell (ah).mt (i := 0) om;refine go ?_;dsimp only [List.append];refine go ?_;refine ix1 zq1q ?_ (i := 0);refine go ?_;refine adi ?_;refine go ?_;refine sui ?_;refine go ?_;exact f_ret1 (t := 10) (v := .bool (decide ((((aa : Int) + (ai : Int)) - (aj : Int)) ≤ (ae : Int)))) rfl ab (congrArg Value.bool (decide_eq_true om)) rfl
end Go.Proofs.YtepcnphmfbbhiaaGreatDoor
