/- Part of the proof of a statement about the special functions. -/
import Derived.Test.YtjijfnggomhpiaaGreatDoorInt2ToInt10
import Derived.Test.YtjijfnggomhpiaaGreatDoorEngGToInt1
import Derived.Lib.OthersKept
set_option linter.all false
namespace Go.Proofs.YtjijfnggomhpiaaGreatDoor
set_option maxRecDepth 100000
open Go Go.Eng Go.RowKit
attribute [local irreducible] wpListIn Code.wpIn Oper.wpIn Exit.then Exit.inBlock Exit.noGoto
set_option maxHeartbeats 40000000
def sgn (ng : Bool) (a : Nat) : Int := if ng then -(a : Int) else (a : Int)
theorem cmpI_ge {a b : Nat} (h : (0 : Int) ≤ cmpI (a : Int) (b : Int)) : b ≤ a := by
  rcases Nat.lt_or_ge a b with h1 | h1
  · rw [cmpI_lt om] at h; omega
  · exact h1
theorem cmpI_lt' {a b : Nat} (h : ¬ (0 : Int) ≤ cmpI (a : Int) (b : Int)) : a ≤ b := by
  rcases Nat.lt_or_ge a b with h1 | h1
  · omega
  · rcases Nat.eq_or_lt_of_le h1 with h2 | h2
    · omega
    · rw [cmpI_gt om] at h; omega
theorem sgn_add_same {nx ny : Bool} {a b : Nat} (h : (nx == ny) = true) : sgn nx (a + b) = sgn nx a + sgn ny b := by
  have : nx = ny := by simpa using h
  subst this
  unfold sgn; split <;> omega
theorem sgn_add_ge {nx ny : Bool} {a b : Nat} (h : (nx == ny) = false) (hle : b ≤ a) : sgn nx (a - b) = sgn nx a + sgn ny b := by
  cases nx <;> cases ny <;> simp_all [sgn] <;> omega
theorem sgn_add_lt {nx ny : Bool} {a b : Nat} (h : (nx == ny) = false) (hle : a ≤ b) : sgn ny (b - a) = sgn nx a + sgn ny b := by
  cases nx <;> cases ny <;> simp_all [sgn] <;> omega
theorem splus_ok {A1 : Option Addr} {n1 c1 a lo1 : Nat} {w : World} (h1 : Num w lo1 A1 n1 c1 a) (s1 : n1 ≤ 9000) {A2 : Option Addr} {n2 c2 b lo2 : Nat} (h2 : Num w lo2 A2 n2 c2 b) (s2 : n2 ≤ 9000) {nx ny : Bool} :
    Calls Tryz.prog 116 #[.agg #[.bool (nx), .slice (A1) (n1) (c1)], .agg #[.bool (ny), .slice (A2) (n2) (c2)]] w (Ret w fun v w' => ∃ ng r A n c, v = .agg #[.bool ng, .slice A n c] ∧ Num w' w.heap.size A n c r ∧ sgn ng r = sgn nx a + sgn ny b) := by
 have uh1 := h1.hi;have uh2 := h2.hi;refine f_in Tryz.func116 rfl ?_;refine go ?_;refine bx (fun w60 k61 hb62 => ?_);have h1 := Num.ext k61.2 h1;have h2 := Num.ext k61.2 h2;have E63 := k61.2;refine bx (fun w64 k65 hb66 => ?_);have h1 := Num.ext k65.2 h1;have h2 := Num.ext k65.2 h2;have hb62 := be k65.2 hb62;have E63 := xt E63 k65.2;refine al inf125 (fun w67 k68 hb69 => ?_);have h1 := Num.ext k68.2 h1;have h2 := Num.ext k68.2 h2;have hb62 := be k68.2 hb62;have hb66 := be k68.2 hb66;have E63 := xt E63 k68.2;refine go ?_;refine l_op (k_eqlB (a := nx) (b := ny) (q := ((nx == ny))) U4 rfl rfl rfl ?_);refine go ?_;rcases Bool.eq_false_or_eq_true (nx == ny) with h70 | h70;refine go ?_;obtain ⟨L, hL⟩ : ∃ L, L = w67.heap.size := ⟨_, rfl⟩;refine c_an 7 ?_;refine sf ?_;refine sf_ah (fun v w => NumPost L (a + b) v w) (hs := fun _ _ _ k h => h.ext k) (fun e95 w96 hR97 hp98 => ?_) ?_;have h1 := Num.ext hR97 h1;have h2 := Num.ext hR97 h2;refine clb en106 (hc := plus_ok h1 om h2 om) (hk := ?_);rintro ao4 w99 fx ⟨Ar, nr, cr, rfl, hr⟩;have aos := fx.2;have hr := hr.mono (lo' := L) (by have := bz hR97; omega);refine go ?_;exact fs ⟨aos, ⟨Ar, nr, cr, rfl, hr⟩⟩;refine sf ?_;intro ao5 ao6 fy aot;have hb62 := be fy.2 hb62;have hb66 := be fy.2 hb66;have hb69 := be fy.2 hb69;have E63 := xt E63 fy.2;obtain ⟨Ar, nr, cr, aou, hr⟩ := (aot 6 17 rfl rfl);refine l_op (k_build (vs := [(0, .bool (nx)), (1, .slice (Ar) (nr) (cr))]) (cells := #[.bool (nx), .slice (Ar) (nr) (cr)]) (pl := [(0, 1), (1, 1)]) U125 inf125 (by kernel_rfl) (cons_eqp rfl (cons_eqp aou rfl)) (by kernel_rfl) ?_)
 refine SA hb69 (fun ao7 cf aov => ?_);have hb62 := pb cf hb62;have hb66 := pb cf hb66;have hr := Num.put cf om hr;have E63 := plw cf E63;have ao8 := psz cf;refine go ?_;refine f_out (v := .agg #[.bool (nx), .slice (Ar) (nr) (cr)]) (res1  rfl ?_) E63 ⟨_, _, _, _, _, rfl, hr.mono om, by first | exact sgn_add_same (by assumption) | exact sgn_add_ge (by assumption) hle | exact sgn_add_lt (by assumption) hle⟩
 refine res_cellA (t := 4) (cs := [.bool (nx), .slice (Ar) (nr) (cr)]) (b := w64.heap.size) (o := 0) U125 rfl sz125 ?_ ?_;exact rfl;exact Blk.cells aov (i := 0) rfl;refine go ?_;refine clb en110 (hc := compare_ok h1 om h2) (hk := ?_);rintro ao9 aoq ib rfl;have h1 := Num.ext ib.2 h1;have h2 := Num.ext ib.2 h2;have hb62 := be ib.2 hb62;have hb66 := be ib.2 hb66;have hb69 := be ib.2 hb69;have E63 := xt E63 ib.2;refine go ?_;by_cases aor : 0 ≤ (cmpI (a : Int) (b : Int));refine go ?_;obtain ⟨L, hL⟩ : ∃ L, L = aoq.heap.size := ⟨_, rfl⟩;have hle := cmpI_ge (by assumption);have hln : n2 ≤ n1 := by rw [← h1.len, ← h2.len]; exact len_mono om hle
 refine c_an 7 ?_;refine sf ?_;refine sf_ah (fun v w => NumPost L (a - b) v w) (hs := fun _ _ _ k h => h.ext k) (fun apt apu kx apv => ?_) ?_;have h1 := Num.ext kx h1;have h2 := Num.ext kx h2;refine clb en108 (hc := minus_ok h1 om h2 om hle hln) (hk := ?_);rintro apw apx ly ⟨Ar, nr, cr, rfl, hr⟩;have aow := ly.2;have hr := hr.mono (lo' := L) (by have := bz kx; omega);refine go ?_;exact fs ⟨aow, ⟨Ar, nr, cr, rfl, hr⟩⟩;refine sf ?_;intro apy apz mq aox;have hb62 := be mq.2 hb62;have hb66 := be mq.2 hb66;have hb69 := be mq.2 hb69;have E63 := xt E63 mq.2;obtain ⟨Ar, nr, cr, aoy, hr⟩ := (aox 6 32 rfl rfl);refine l_op (k_build (vs := [(0, .bool (nx)), (1, .slice (Ar) (nr) (cr))]) (cells := #[.bool (nx), .slice (Ar) (nr) (cr)]) (pl := [(0, 1), (1, 1)]) U125 inf125 (by kernel_rfl) (cons_eqp rfl (cons_eqp aoy rfl)) (by kernel_rfl) ?_);refine SA hb69 (fun ap0 cw aoz => ?_);have hb62 := pb cw hb62;have hb66 := pb cw hb66;have hr := Num.put cw om hr;have E63 := plw cw E63;have ap1 := psz cw;refine go ?_;refine f_out (v := .agg #[.bool (nx), .slice (Ar) (nr) (cr)]) (res1  rfl ?_) E63 ⟨_, _, _, _, _, rfl, hr.mono om, by first | exact sgn_add_same (by assumption) | exact sgn_add_ge (by assumption) hle | exact sgn_add_lt (by assumption) hle⟩
 refine res_cellA (t := 4) (cs := [.bool (nx), .slice (Ar) (nr) (cr)]) (b := w64.heap.size) (o := 0) U125 rfl sz125 ?_ ?_;exact rfl;exact Blk.cells aoz (i := 0) rfl;refine go ?_;obtain ⟨L, hL⟩ : ∃ L, L = aoq.heap.size := ⟨_, rfl⟩;have hle := cmpI_lt' (by assumption);have hln : n1 ≤ n2 := by rw [← h1.len, ← h2.len]; exact len_mono om hle
 refine c_an 7 ?_;refine sf ?_;refine sf_ah (fun v w => NumPost L (b - a) v w) (hs := fun _ _ _ k h => h.ext k) (fun aqk aql ns aqm => ?_) ?_;have h1 := Num.ext ns h1;have h2 := Num.ext ns h2;refine clb en108 (hc := minus_ok h2 om h1 om hle hln) (hk := ?_);rintro aqn aqo nv ⟨Ar, nr, cr, rfl, hr⟩;have ao0 := nv.2;have hr := hr.mono (lo' := L) (by have := bz ns; omega);refine go ?_;exact fs ⟨ao0, ⟨Ar, nr, cr, rfl, hr⟩⟩;refine sf ?_;intro aqp aqq od ao1;have hb62 := be od.2 hb62;have hb66 := be od.2 hb66;have hb69 := be od.2 hb69;have E63 := xt E63 od.2;obtain ⟨Ar, nr, cr, ao2, hr⟩ := (ao1 6 40 rfl rfl);refine l_op (k_build (vs := [(0, .bool (ny)), (1, .slice (Ar) (nr) (cr))]) (cells := #[.bool (ny), .slice (Ar) (nr) (cr)]) (pl := [(0, 1), (1, 1)]) U125 inf125 (by kernel_rfl) (cons_eqp rfl (cons_eqp ao2 rfl)) (by kernel_rfl) ?_);refine SA hb69 (fun aqr e9 ao3 => ?_);have hb62 := pb e9 hb62;have hb66 := pb e9 hb66;have hr := Num.put e9 om hr;have E63 := plw e9 E63;have aqs := psz e9;refine go ?_;refine f_out (v := .agg #[.bool (ny), .slice (Ar) (nr) (cr)]) (res1  rfl ?_) E63 ⟨_, _, _, _, _, rfl, hr.mono om, by first | exact sgn_add_same (by assumption) | exact sgn_add_ge (by assumption) hle | exact sgn_add_lt (by assumption) hle⟩
 refine res_cellA (t := 4) (cs := [.bool (ny), .slice (Ar) (nr) (cr)]) (b := w64.heap.size) (o := 0) U125 rfl sz125 ?_ ?_;exact rfl;exact Blk.cells ao3 (i := 0) rfl
theorem both_ok (a b : List UInt8) (w : World) (ha : isInt a = true) (hb : isInt b = true) :
    Calls Tryz.prog 75 #[S (a), S (b)] w (Ret w fun v w' => ∃ A1 n1 c1 A2 n2 c2, v = .tuple #[.agg #[.bool (neg a), .slice A1 n1 c1], .agg #[.bool (neg b), .slice A2 n2 c2], .bool true] ∧ Num w' w.heap.size A1 n1 c1 (valN (body a)) ∧ Num w' w.heap.size A2 n2 c2 (valN (body b))) := by
 refine f_in Tryz.func75 rfl ?_;refine go ?_;refine al inf125 (fun nv oq cw => ?_);have cf := oq.2;refine al inf125 (fun r8 od e9 => ?_);have cw := be od.2 cw;have cf := xt cf od.2;refine go ?_;refine cl en120 (isValid_ok a _) ?_;rintro sc wz kx rfl;have cw := be kx.2 cw;have e9 := be kx.2 e9;have cf := xt cf kx.2;refine go ?_;refine cl en120 (isValid_ok b _) ?_;rintro w7 w9 ly rfl;have cw := be ly.2 cw;have e9 := be ly.2 e9;have cf := xt cf ly.2;refine go ?_;refine cl en121 (parse_ok _ _ ha) ?_;rintro aol aom mq ⟨A1, n1, c1, rfl, h1⟩;have cw := be mq.2 cw;have e9 := be mq.2 e9;have cf := xt cf mq.2;refine go ?_;refine cl en121 (parse_ok _ _ hb) ?_;rintro aon aoo ib ⟨A2, n2, c2, rfl, h2⟩;have cw := be ib.2 cw;have e9 := be ib.2 e9;have h1 := Num.ext ib.2 h1;have cf := xt cf ib.2;refine SA cw (fun aop fx ns => ?_);have e9 := pb fx e9;have h1 := Num.put fx om h1;have h2 := Num.put fx om h2;have cf := plw fx cf;have aoq := psz fx;refine SA e9 (fun aor fy p6 => ?_);have ns := pb fy ns;have h1 := Num.put fy om h1;have h2 := Num.put fy om h2;have cf := plw fy cf;have aos := psz fy;refine go ?_;refine f_out (v := .tuple #[.agg #[.bool (neg a), .slice (A1) (n1) (c1)], .agg #[.bool (neg b), .slice (A2) (n2) (c2)], .bool (true)]) (res3 (r1 := .cell 4 97) (r2 := .cell 5 97) (r3 := .tmp 6) rfl ?_ ?_ ?_) cf ⟨_, _, _, _, _, _, rfl, h1.mono om, h2.mono om⟩
 refine res_cellA (t := 4) (cs := [.bool (neg a), .slice (A1) (n1) (c1)]) (b := w.heap.size) (o := 0) U125 rfl sz125 ?_ ?_;exact rfl;exact Blk.cells ns (i := 0) rfl;refine res_cellA (t := 5) (cs := [.bool (neg b), .slice (A2) (n2) (c2)]) (b := nv.heap.size) (o := 0) U125 rfl sz125 ?_ ?_;exact rfl;exact Blk.cells p6 (i := 0) rfl;exact res_tmp (t := 6) (by exact rfl) _
theorem both_no (a b : List UInt8) (w : World) (hno : (isInt a && isInt b) = false) :
    Calls Tryz.prog 75 #[S (a), S (b)] w (Ret w fun v w' => v = .tuple #[.agg #[.bool false, .slice none 0 0], .agg #[.bool false, .slice none 0 0], .bool false]) := by
 refine f_in Tryz.func75 rfl ?_;refine go ?_;refine al inf125 (fun fy wz e9 => ?_);have cf := wz.2;refine al inf125 (fun aol r8 cw => ?_);have e9 := be r8.2 e9;have cf := xt cf r8.2;refine go ?_;rcases Bool.eq_false_or_eq_true (isInt a) with fx | fx;refine go ?_;refine cl en120 (isValid_ok a _) ?_;rintro aom aon ib rfl;have e9 := be ib.2 e9;have cw := be ib.2 cw;have cf := xt cf ib.2;refine go ?_;refine cl en120 (isValid_ok b _) ?_;rintro aoo aop kx rfl;have e9 := be kx.2 e9;have cw := be kx.2 cw;have cf := xt cf kx.2;refine go ?_;rcases Bool.eq_false_or_eq_true (isInt b) with sc | sc;exact absurd hno (by simp [*]);refine go ?_;refine SA e9 (fun aoq ly mq => ?_);have cw := pb ly cw;have cf := plw ly cf;have aor := psz ly;refine SA cw (fun aos ns w7 => ?_);have mq := pb ns mq;have cf := plw ns cf;have aot := psz ns;refine go ?_;refine f_out (v := .tuple #[.agg #[.bool (false), .slice (none) (0) (0)], .agg #[.bool (false), .slice (none) (0) (0)], .bool (false)]) (res3 (r1 := .cell 4 97) (r2 := .cell 5 97) (r3 := .tmp 6) rfl ?_ ?_ ?_) cf rfl;refine res_cellA (t := 4) (cs := [.bool (false), .slice (none) (0) (0)]) (b := w.heap.size) (o := 0) U125 rfl sz125 ?_ ?_;exact rfl;exact Blk.cells mq (i := 0) rfl;refine res_cellA (t := 5) (cs := [.bool (false), .slice (none) (0) (0)]) (b := fy.heap.size) (o := 0) U125 rfl sz125 ?_ ?_;exact rfl;exact Blk.cells w7 (i := 0) rfl
 exact res_tmp (t := 6) (by exact rfl) _;refine go ?_;refine cl en120 (isValid_ok a _) ?_;rintro aou aov nv rfl;have e9 := be nv.2 e9;have cw := be nv.2 cw;have cf := xt cf nv.2;refine go ?_;refine SA e9 (fun aow od oq => ?_);have cw := pb od cw;have cf := plw od cf;have aox := psz od;refine SA cw (fun aoy p6 w9 => ?_);have oq := pb p6 oq;have cf := plw p6 cf;have aoz := psz p6;refine go ?_;refine f_out (v := .tuple #[.agg #[.bool (false), .slice (none) (0) (0)], .agg #[.bool (false), .slice (none) (0) (0)], .bool (false)]) (res3 (r1 := .cell 4 97) (r2 := .cell 5 97) (r3 := .tmp 6) rfl ?_ ?_ ?_) cf rfl;refine res_cellA (t := 4) (cs := [.bool (false), .slice (none) (0) (0)]) (b := w.heap.size) (o := 0) U125 rfl sz125 ?_ ?_;exact rfl;exact Blk.cells oq (i := 0) rfl;refine res_cellA (t := 5) (cs := [.bool (false), .slice (none) (0) (0)]) (b := fy.heap.size) (o := 0) U125 rfl sz125 ?_ ?_;exact rfl;exact Blk.cells w9 (i := 0) rfl;exact res_tmp (t := 6) (by exact rfl) _
theorem iValid_ok (l : List UInt8) (w : World) :
    Calls Tryz.prog 73 #[S (l)] w (Ret w fun v w' => v = .bool (isInt l)) := by
 refine f_in Tryz.func73 rfl ?_;refine go ?_;refine cl en120 (isValid_ok l _) ?_;rintro e9 fx cf rfl;have cw := cf.2;refine go ?_;exact f_ret1 (t := 2) (v := .bool (isInt l)) rfl cw rfl rfl
end Go.Proofs.YtjijfnggomhpiaaGreatDoor
namespace Go.Proofs.YtjijfnggomhpiaaGreatDoor
open Go Go.Eng Go.RowKit
attribute [local irreducible] wpListIn Code.wpIn Oper.wpIn Exit.then Exit.inBlock Exit.noGoto
set_option maxHeartbeats 40000000
def Bld (w : World) (b : Nat) (l : List UInt8) : Prop := Lib.IsBuilderF 141 5 b b (Lib.byteCells l) w
theorem atF_of {b : Nat} {p : Value} {bs : List Value} {w w' : World} (hk : ∀ (k : Nat) (c : Array Value) (t : TypeId) (fz : Nat × Nat), w.heap[k]? = some (Obj.cells c t fz) → w'.heap[k]? = w.heap[k]?) (h : Lib.BuilderAtF 141 5 b b p bs w) : Lib.BuilderAtF 141 5 b b p bs w' := by
  obtain ⟨hB, v, hb, ⟨hl, hv | ⟨g, cap, cur, fz, rfl, hg, hh, r⟩⟩, hne⟩ := h
  · exact ⟨hB, v, (hk _ _ _ _ hb).trans hb, ⟨hl, .inl hv⟩, hne⟩
  · exact ⟨hB, _, (hk _ _ _ _ hb).trans hb, ⟨hl, .inr ⟨g, cap, cur, fz, rfl, hg, (hk _ _ _ _ hh).trans hh, r⟩⟩, hne⟩
theorem Bld.of {w w' : World} {b : Nat} {l : List UInt8} (hk : ∀ (k : Nat) (c : Array Value) (t : TypeId) (fz : Nat × Nat), w.heap[k]? = some (Obj.cells c t fz) → w'.heap[k]? = w.heap[k]?) (h : Bld w b l) : Bld w' b l :=
  h.elim (fun x => .inl (atF_of hk x)) (fun x => .inr (atF_of hk x))
theorem Bld.ext {w w' : World} {b : Nat} {l : List UInt8} (k : Ext w w') (h : Bld w b l) : Bld w' b l := Bld.of (h := h) (fun i _ _ _ hi => k.block i (Array.getElem?_eq_some_iff.1 hi).1)
theorem Bld.cel {W W' : World} {row : Option Nat} {B b : Nat} {l : List UInt8} (hg : W.grownBy W' row) (hr : ∀ r, row = some r → B ≤ r ∧ ∃ o : Obj, W.heap[r]? = some o ∧ o.isCells = false) (h : Bld W b l) : Bld W' b l :=
  Bld.of (h := h) (fun i _ _ _ hi => grownBy_keeps_cells hg (fun r e => (hr r e).2) hi rfl)
theorem Bld.start {w : World} {b : Nat} (h : Blk w b 141 #[.pointer none, .slice none 0 0]) : Bld w b [] :=
  .inl ⟨Nat.le_refl _, _, h, World.ownsRowF_of own_nil, by simp [Value.ownBlock]⟩
theorem Bld.cells {w : World} {b : Nat} {l : List UInt8} (h : Bld w b l) : ∃ (c : Array Value) (t : TypeId) (fz : Nat × Nat), w.heap[b]? = some (Obj.cells c t fz) := by
  rcases h with h | h <;> (obtain ⟨_, v, hb, _⟩ := h; exact ⟨_, _, _, hb⟩)
theorem Bld.lt {w : World} {b : Nat} {l : List UInt8} (h : Bld w b l) : b < w.heap.size := by
  obtain ⟨_, _, _, hb⟩ := h.cells
  exact (Array.getElem?_eq_some_iff.1 hb).1
structure KB (b : Nat) (W W' : World) : Prop where
  oth : Lib.OthersKept 5 (some b) W W'
  low : Below b W W'
theorem KB.refl (b : Nat) (W : World) : KB b W W := ⟨Lib.OthersKept.refl _ _ _, Below.refl _ _⟩
theorem KB.ext {b : Nat} {W A B : World} (hb : b ≤ A.heap.size) (h : KB b W A) (k : Ext A B) : KB b W B :=
  ⟨h.oth.trans (fun i o hi _ _ => (k.block i (Array.getElem?_eq_some_iff.1 hi).1).trans hi), Below.trans h.low (Below.mono k hb)⟩
theorem KB.wr {b : Nat} {W A B : World} (h : KB b W A) (k : KB b A B) : KB b W B := ⟨h.oth.trans k.oth, Below.trans h.low k.low⟩
theorem KB.others {b : Nat} {l : List UInt8} {W W' : World} (h : KB b W W') (hb : Bld W b l) : KeepsOthers W W' := by
  refine ⟨h.low.size, fun k o hk ho => h.oth k o hk ?_ ?_⟩
  · intro e
    cases e
    obtain ⟨c, t, fz, hc⟩ := hb.cells
    rw [hc] at hk; cases hk; cases ho
  · intro c fz e; subst e; cases ho
theorem KB.blk {b c : Nat} {t : TypeId} {cs : Array Value} {W W' : World} (h : KB b W W') (hn : c ≠ b) (ht : t ≠ 5) (hb : Blk W c t cs) : Blk W' c t cs :=
  h.oth c _ hb (fun e => hn (by cases e; rfl)) (fun _ _ e => ht (by cases e; rfl))
theorem KB.rw {b lo : Nat} {A : Option Addr} {cs : List Value} {W W' : World} (h : KB b W W') (hA : ∀ ad, A = some ad → ad.block < b) (hr : Rw W lo A cs) : Rw W' lo A cs := by
  refine ⟨fun j u hu => ?_, hr.lo, fun ad e => Nat.lt_of_lt_of_le (hr.hi ad e) h.low.size⟩
  obtain ⟨c, o, e, hc⟩ := hr.cells j u hu
  exact ⟨c, o, e, (World.cell?_of_block (h.low.block c (hA _ e))).trans hc⟩
theorem KB.dfr {b D : Nat} {l : List UInt8} {W W' : World} (h : KB b W W') (hb : Bld W b l) (hD : Dfr W D) : Dfr W' D :=
  h.oth D _ hD (fun e => by
    cases e
    obtain ⟨c, t, fz, hc⟩ := hb.cells
    unfold Dfr at hD; rw [hc] at hD; cases hD) (fun _ _ e => by cases e)
theorem write_ok {b : Nat} {l s : List UInt8} {w : World} (h : Bld w b l) (hl : l.length + s.length ≤ 1000000) :
    Calls Tryz.prog 130 #[.pointer (some ⟨b, 0, none⟩), S s] w (RetA fun v w' => v = .tuple #[.int .i64 ((s.length : Nat) : Int), .nilIface] ∧ Bld w' b (l ++ s) ∧ KB b w w') :=
  reta_of (Any.Builder_WriteString_k { Tryz.lays105 with } Tryz.Builder_Extra_105 b b (Lib.byteCells l) ⟨s.toArray⟩ w h (by rw [Lib.byteCells_length, size_S]; omega) (Nat.le_of_lt h.lt)) (by
    rintro e w' ⟨rfl, h1, h2, h3⟩
    refine ⟨_, rfl, by rw [size_S], ?_, h3, h2⟩
    have : Lib.byteCells (l ++ s) = Lib.byteCells l ++ Lib.strCells ⟨s.toArray⟩ := by simp [Lib.byteCells, Lib.strCells]
    unfold Bld
    rw [this]
    exact .inr h1)
theorem string_ok {b : Nat} {l : List UInt8} {w : World} (h : Bld w b l) :
    Calls Tryz.prog 131 #[.pointer (some ⟨b, 0, none⟩)] w (RetA fun v w' => v = S l ∧ Bld w' b l ∧ KB b w w') :=
  reta_of (Tryz.Builder_String_any_k b b l w h (Nat.le_of_lt h.lt)) (by
    rintro e w' ⟨rfl, h1, h2, h3⟩
    exact ⟨_, rfl, rfl, h1, h3, h2⟩)
def P4 (g : Nat) : List Nat := toB 10 g ++ List.replicate (4 - (toB 10 g).length) 0
def D4 : List Nat → List Nat
  | [] => []
  | [g] => toB 10 g
  | g :: rest => P4 g ++ D4 rest
theorem D4_cc (g g2 : Nat) (r : List Nat) : D4 (g :: g2 :: r) = P4 g ++ D4 (g2 :: r) := rfl
theorem D4_cne (g : Nat) {r : List Nat} (h : r ≠ []) : D4 (g :: r) = P4 g ++ D4 r := by
  cases r with
  | nil => exact absurd rfl h
  | cons a b => rfl
theorem len4 {g : Nat} (h : g < 10000) : (toB 10 g).length ≤ 4 := (length_toB_le_iff 10 om g 4).2 h
theorem P4_len {g : Nat} (h : g < 10000) : (P4 g).length = 4 := by have := len4 h; simp [P4]; omega
theorem ofB_zeros : ∀ k, ofB 10 (List.replicate k 0) = 0
  | 0 => rfl
  | k + 1 => by simp [List.replicate_succ, ofB, ofB_zeros k]
theorem P4_val (g : Nat) : ofB 10 (P4 g) = g := by rw [P4, ofB_append, ofB_zeros, ofB_toB 10 om]; simp
theorem P4_lt (g : Nat) : ∀ d ∈ P4 g, d < 10 := by
  intro d hd
  rcases List.mem_append.1 hd with h | h
  · exact toB_lt 10 om g d h
  · rw [(List.mem_replicate.1 h).2]; omega
theorem D4_lt : ∀ X : List Nat, ∀ d ∈ D4 X, d < 10
  | [], d, h => by simp [D4] at h
  | [g], d, h => toB_lt 10 om g d h
  | g :: g2 :: r, d, h => by
    rw [D4_cc] at h
    rcases List.mem_append.1 h with h | h
    · exact P4_lt g d h
    · exact D4_lt (g2 :: r) d h
theorem D4_val : ∀ X : List Nat, (∀ g ∈ X, g < 10000) → ofB 10 (D4 X) = ofB 10000 X
  | [], _ => rfl
  | [g], _ => by simp [D4, ofB, ofB_toB 10 (show 2 ≤ 10 by omega)]
  | g :: g2 :: r, h => by
    rw [D4_cc, ofB_append, P4_val, P4_len (h g (by simp)), D4_val (g2 :: r) (fun x hx => h x (by simp at hx ⊢; right; exact hx))]
    simp [ofB]
theorem D4_last : ∀ X : List Nat, X ≠ [] → X.getLast? ≠ some 0 → (∀ g ∈ X, g < 10000) → (D4 X) ≠ [] ∧ (D4 X).getLast? ≠ some 0
  | [], h, _, _ => absurd rfl h
  | [g], _, h, _ => by
    have hg : g ≠ 0 := by intro e; subst e; simp at h
    exact ⟨toB_ten_ne hg, getLast_toB 10 om g⟩
  | g :: g2 :: r, _, h, hl => by
    have ih := D4_last (g2 :: r) (by simp) (by simpa using h) (fun x hx => hl x (by simp at hx ⊢; right; exact hx))
    rw [D4_cc]
    refine ⟨by simp [ih.1], ?_⟩
    rw [List.getLast?_append]
    cases hq : (D4 (g2 :: r)).getLast? with
    | none => exact absurd (List.getLast?_eq_none_iff.1 hq) ih.1
    | some y => simpa [hq] using ih.2
theorem D4_all (a : Nat) : D4 (toB 10000 a) = toB 10 a := by
  by_cases h0 : toB 10000 a = []
  · have : a = 0 := toB_nil (B := 10000) om (by rw [h0]; rfl)
    subst this; rfl
  · have hlt := toB_lt 10000 om a
    have h1 := D4_last (toB 10000 a) h0 (getLast_toB 10000 om a) hlt
    have h2 : Canon 10 (D4 (toB 10000 a)) := ⟨D4_lt _, h1.2⟩
    rw [canon_eq om h2, D4_val _ hlt, ofB_toB 10000 om]
theorem showD_append (a b : List Nat) : showD (a ++ b) = showD b ++ showD a := by simp [showD]
theorem decDigits_showN (u : Nat) : Lib.decDigits u = showN u := by
  induction u using Nat.strongRecOn with
  | _ u ih =>
    by_cases h : u < 10
    · rw [Lib.decDigits_one h]
      unfold showN
      split
      · next h0 => subst h0; rfl
      · next h0 =>
        rw [toB_pos 10 u om om, show u / 10 = 0 by omega, toB_zero, Nat.mod_eq_of_lt h]; rfl
    · rw [Lib.decDigits, dif_neg h, ih (u / 10) om]
      unfold showN
      rw [if_neg om, if_neg om]
      conv => rhs; rw [toB_pos 10 u om om]
      simp [showD]
theorem itoa_nat (g : Nat) : Lib.itoa (g : Int) = showN g := by
  rw [Lib.itoa, if_neg om, Int.toNat_natCast, decDigits_showN]
theorem showN_len {g : Nat} (h : g < 10000) : 0 < (showN g).length ∧ (showN g).length ≤ 4 := by
  unfold showN; split
  · simp
  · next h0 =>
    rw [showD_length]
    exact ⟨List.length_pos_iff.2 (toB_ten_ne h0), len4 h⟩
theorem repeat_zero (k : Nat) : Lib.repeatL [48] k = showD (List.replicate k 0) := by
  induction k with
  | zero => rfl
  | succ k ih => rw [Lib.repeatL, ih, List.replicate_succ']; simp [showD]
theorem pad4 {g : Nat} (h : g < 10000) : Lib.repeatL [48] (4 - (showN g).length) ++ showN g = showD (P4 g) := by
  by_cases h0 : g = 0
  · subst h0; rfl
  · have e : showN g = showD (toB 10 g) := by unfold showN; rw [if_neg h0]
    rw [e, showD_length, P4, showD_append, repeat_zero]
theorem drop_at {X : List Nat} {x : Nat} (h : x < X.length) : X.drop x = X.getD x 0 :: X.drop (x + 1) := by
  rw [List.drop_eq_getElem_cons h]; simp [h]
theorem text_step {X : List Nat} {x n k : Nat} (hn : X.length = n) (hx : x < n) (hk : x + 1 = k) (hlt : ∀ g ∈ X, g < 10000) (h0 : X.getLast? ≠ some 0) :
    showD (D4 (X.drop k)) ++ (if x + 1 < n then Lib.repeatL [48] (4 - (showN (X.getD x 0)).length) ++ showN (X.getD x 0) else showN (X.getD x 0)) = showD (D4 (X.drop x)) := by
  subst hk
  have hgl : X.getD x 0 < 10000 := getD_lt hlt x
  have hdx : X.drop x = X.getD x 0 :: X.drop (x + 1) := drop_at om
  rw [hdx]
  by_cases hc : x + 1 < n
  · rw [if_pos hc, pad4 hgl]
    have : X.drop (x + 1) = X.getD (x + 1) 0 :: X.drop (x + 1 + 1) := drop_at om
    rw [D4_cne _ (by rw [this]; simp), showD_append]
  · rw [if_neg hc]
    have hnil : X.drop (x + 1) = [] := List.drop_eq_nil_of_le om
    rw [hnil]
    have hg : X.getD x 0 ≠ 0 := by
      intro e
      apply h0
      rw [List.getLast?_eq_getElem?, show X.length - 1 = x by omega]
      have h9 : X[x]? = some X[x] := List.getElem?_eq_getElem om
      rw [List.getD, h9] at e
      rw [h9]; exact congrArg some e
    simp only [D4]
    unfold showN
    rw [if_neg hg]
    simp [showD]
theorem D4_len : ∀ X : List Nat, (∀ g ∈ X, g < 10000) → (D4 X).length ≤ 4 * X.length
  | [], _ => by simp [D4]
  | [g], h => by simp [D4]; exact len4 (h g (by simp))
  | g :: g2 :: r, h => by
    have ih := D4_len (g2 :: r) (fun x hx => h x (by simp at hx ⊢; right; exact hx))
    rw [D4_cc, List.length_append, P4_len (h g (by simp))]
    simp at ih ⊢; omega
def rS (o : Option (List UInt8)) : List UInt8 := o.getD []
def rE (o : Option (List UInt8)) : Int := if o.isSome then 0 else 30
def resI (o : Option (List UInt8)) : Value := .tuple #[S (rS o), .int .i64 (rE o)]
theorem natAbs_sgn (ng : Bool) (a : Nat) : (sgn ng a).natAbs = a := by unfold sgn; split <;> simp
theorem sgn_neg (ng : Bool) {a : Nat} (h : 0 < a) : (sgn ng a < 0) ↔ ng = true := by
  unfold sgn; cases ng <;> simp; omega
theorem showI_sgn (ng : Bool) {a : Nat} (h : 0 < a) : showI (sgn ng a) = if ng then 45 :: showN a else showN a := by
  unfold showI
  rw [natAbs_sgn]
  by_cases hn : ng = true
  · rw [if_pos ((sgn_neg ng h).2 hn), if_pos hn]
  · rw [if_neg (fun hc => hn ((sgn_neg ng h).1 hc)), if_neg hn]
theorem fits_sgn (ng : Bool) {a : Nat} (h : 0 < a) : fits (sgn ng a) = decide ((showN a).length ≤ 200) := by
  unfold fits
  rw [natAbs_sgn]
  unfold showN
  rw [if_neg om, showD_length, decide_eq_decide]
  exact (length_toB_le_iff 10 om a 200).symm
theorem out_zero (ng : Bool) : Value.tuple #[S [48], .int .i64 0] = resI (outI (sgn ng 0)) := by cases ng <;> rfl
theorem out_big (ng : Bool) {a : Nat} (h : 0 < a) (hl : (200 : Int) < (((showN a).length : Nat) : Int)) : Value.tuple #[S [], .int .i64 30] = resI (outI (sgn ng a)) := by
  unfold outI
  rw [fits_sgn ng h, decide_eq_false om]; rfl
theorem out_neg {ng : Bool} {a : Nat} (h : 0 < a) (hl : ¬ (200 : Int) < (((showN a).length : Nat) : Int)) (hn : ng = true) : Value.tuple #[S ([45] ++ showN a), .int .i64 0] = resI (outI (sgn ng a)) := by
  unfold outI
  rw [fits_sgn ng h, decide_eq_true om, if_pos rfl, showI_sgn ng h, if_pos hn]; rfl
theorem out_pos {ng : Bool} {a : Nat} (h : 0 < a) (hl : ¬ (200 : Int) < (((showN a).length : Nat) : Int)) (hn : ng = false) : Value.tuple #[S (showN a), .int .i64 0] = resI (outI (sgn ng a)) := by
  unfold outI
  rw [fits_sgn ng h, decide_eq_true om, if_pos rfl, showI_sgn ng h, if_neg (by simp [hn])]; rfl
def grp (X : List Nat) (n i : Nat) : List UInt8 := if i + 1 < n then Lib.repeatL [48] (4 - (showN (X.getD i 0)).length) ++ showN (X.getD i 0) else showN (X.getD i 0)
def tx (X : List Nat) (n : Nat) (pre : List Nat) : List UInt8 := pre.flatMap (grp X n)
theorem tx_snoc (X : List Nat) (n : Nat) (pre : List Nat) (x : Nat) : tx X n (pre ++ [x]) = tx X n pre ++ grp X n x := by simp [tx]
theorem grp_pos {X : List Nat} {n i : Nat} (h : i + 1 < n) : grp X n i = Lib.repeatL [48] (4 - (showN (X.getD i 0)).length) ++ showN (X.getD i 0) := if_pos h
theorem grp_neg {X : List Nat} {n i : Nat} (h : ¬ i + 1 < n) : grp X n i = showN (X.getD i 0) := if_neg h
theorem grp_len {X : List Nat} (hX : ∀ g ∈ X, g < 10000) (n i : Nat) : (grp X n i).length ≤ 4 := by
  have h1 := getD_lt hX i
  have h2 := showN_len h1
  unfold grp; split
  · rw [pad4 h1, showD_length, P4_len h1]; omega
  · exact h2.2
theorem tx_len {X : List Nat} (hX : ∀ g ∈ X, g < 10000) (n : Nat) : ∀ pre : List Nat, (tx X n pre).length ≤ 4 * pre.length
  | [] => by simp [tx]
  | i :: l => by
    have ih := tx_len hX n l
    have := grp_len hX n i
    simp only [tx, List.flatMap_cons, List.length_append, List.length_cons] at ih ⊢
    omega
theorem tx_gen {X : List Nat} {n : Nat} (hn : X.length = n) (hlt : ∀ g ∈ X, g < 10000) (h0 : X.getLast? ≠ some 0) : ∀ j, j ≤ n → showD (D4 (X.drop j)) ++ tx X n (List.range j).reverse = showD (D4 X)
  | 0, _ => by simp [tx]
  | j + 1, h => by
    have e : (List.range (j + 1)).reverse = j :: (List.range j).reverse := by simp [List.range_succ]
    rw [e]
    show _ ++ (grp X n j ++ tx X n _) = _
    rw [← List.append_assoc]
    have := text_step (X := X) (x := j) (n := n) (k := j + 1) hn om rfl hlt h0
    unfold grp
    rw [this]
    exact tx_gen hn hlt h0 j om
theorem tx_all {a n : Nat} (hn : (toB 10000 a).length = n) (h0 : 0 < a) : tx (toB 10000 a) n (List.range n).reverse = showN a := by
  have h := tx_gen hn (toB_lt 10000 om a) (getLast_toB 10000 om a) n (Nat.le_refl _)
  rw [List.drop_eq_nil_of_le om, D4_all] at h
  have h2 : showD (D4 []) = [] := rfl
  rw [h2, List.nil_append] at h
  rw [h]; unfold showN; rw [if_neg om]
set_option maxRecDepth 100000 in
theorem stext_ok {A1 : Option Addr} {n1 c1 a lo1 : Nat} {w : World} (h1 : Num w lo1 A1 n1 c1 a) (s1 : n1 ≤ 9000) (ht : Tb w) {ng : Bool} :
    Calls Tryz.prog 80 #[.agg #[.bool (ng), .slice (A1) (n1) (c1)]] w (Ret w fun v w' => v = resI (outI (sgn ng a))) := by
 have uh1 := h1.hi;refine f_inM Tryz.func80 rfl ?_;refine go ?_;refine bx (fun e9 w7 cf => ?_);have cw := w7.2;refine go ?_;by_cases od : (n1 : Int) = 0;have hz0 : a = 0 := toB_nil (B := 10000) om (h1.len.trans om);refine go ?_;refine f_outM0 (v := .tuple #[S ([48]), .int .i64 (0)]) (res2 (r1 := .tmp 2) (r2 := .tmp 3) rfl ?_ ?_) cw (by first | exact out_big _ ha0 (by assumption) | exact out_neg ha0 (by assumption) (by assumption) | exact out_pos ha0 (by assumption) (by assumption) | (rw [hz0]; exact out_zero _));exact res_tmp (t := 2) (by exact rfl) _;exact res_tmp (t := 3) (by exact rfl) _;have ha0 : 0 < a := toB_ne (B := 10000) om (by rw [h1.len]; omega);refine go ?_;refine al inf157 (fun oq p6 mq => ?_);have cf := be p6.2 cf;have cw := xt cw p6.2;refine go ?_;refine cl en122 (backward_ok (A := A1) (n := n1) (c := c1)) ?_;rintro aol r8 ns ⟨rfl, w9⟩;have cf := be ns.2 cf;have mq := be ns.2 mq;have cw := xt cw ns.2;refine go ?_;have hbl := Bld.start mq;have hblt := hbl.lt;refine c_range (m := n1) (enc := fun x => [.int .i64 x, .int .i64 ((((toB 10000 a).getD x 0 : Nat) : Int))]) (order := (List.range n1).reverse) (Kq := fun W => Blk W (oq.heap.size) 95 #[.slice A1 n1 c1] ∧ Rw W lo1 A1 (ints (toB 10000 a))) (gf := 154) (lb := [.pointer (some ⟨oq.heap.size, 0, none⟩)]) (ps := [16, 17]) rfl en139 (backward_iter w9 (h1.row.ext cw) h1.len om) (fun W W' row hq hg hr => ⟨Blk.cel hg hr hq.1, Rw.cel hg hr hq.2⟩) (fun _ => rfl) [5, 6] (fun x => [.int .i64 x, .int .i64 ((((toB 10000 a).getD x 0 : Nat) : Int))]) ?asn (fun pre W => (r8.heap.size ≤ W.heap.size) ∧ (Ext w W) ∧ (Blk W (w.heap.size) 97 #[.bool (ng), .slice (A1) (n1) (c1)]) ∧ (Bld W (e9.heap.size) (tx (toB 10000 a) n1 (pre)))) (fun _ _ _ => False) ?hI ?hIx ?h0 ?body ?done ?stop
 case asn =>
  intro l x W K hK;refine go ?_;exact hK
 case hI =>
  rintro pre W W' row ⟨zwl, E, cf, hbl⟩ hg hr;exact ⟨Nat.le_trans zwl hg.size, low_cel (B := r8.heap.size) om hg hr (bz E) E, Blk.cel hg hr cf, Bld.cel hg hr hbl⟩
 case hIx =>
  exact fun _ _ _ _ _ h => h.elim
 case h0 =>
  exact ⟨Nat.le_refl _, cw, cf, hbl⟩
 case body =>
  rintro l pre x W ⟨zwl, E, cf, hbl⟩ hpre hx hlen;have Kp := KB.refl (e9.heap.size) W;have zW := bz E;have hgd := getD_lt h1.lt x;have hsl := showN_len hgd;have hbl0 := hbl;have hbW := hbl.lt;have hDl := tx_len h1.lt n1 pre;refine go ?_;refine clb en131 (hc := itoa_ok _ _ om om (ht.ext E)) (hk := ?_);rintro aom aon fx rfl;have cf := be fx.2 cf;have hbl := Bld.ext fx.2 hbl;have E := xt E fx.2;have Kp := KB.ext om Kp fx.2;rw [itoa_nat];refine go ?_;refine sui ?_;refine go ?_;by_cases sc : (x : Int) < ((n1 : Int) - 1);refine go ?_;refine l_op (k_lenL (l := showN ((toB 10000 a).getD x 0)) U9 rfl ?_);refine l_op (k_sub (a := 4) (b := (((showN ((toB 10000 a).getD x 0)).length : Nat) : Int)) (c := ((4 - (showN ((toB 10000 a).getD x 0)).length : Nat) : Int)) rfl rfl (by unfold In64; omega) om ?_);refine clb en132 (hc := repeat_ok [48] (4 - (showN ((toB 10000 a).getD x 0)).length) _ om (by simp)) (hk := ?_);rintro aoo aop fy rfl;have cf := be fy.2 cf;have hbl := Bld.ext fy.2 hbl;have E := xt E fy.2;have Kp := KB.ext om Kp fy.2;refine go ?_;refine l_op (k_addS (a := Lib.repeatL [48] (4 - (showN ((toB 10000 a).getD x 0)).length)) (b := showN ((toB 10000 a).getD x 0)) rfl rfl (by rw [← List.length_append, pad4 hgd, showD_length, P4_len hgd]; omega) ?_);refine go ?_;have hwl : ((Lib.repeatL [48] (4 - (showN ((toB 10000 a).getD x 0)).length)) ++ (showN ((toB 10000 a).getD x 0))).length ≤ 8 := by rw [pad4 hgd, showD_length, P4_len hgd]; omega
  refine l_op (k_callA (vs := [.pointer (some ⟨e9.heap.size, 0, none⟩), S ((Lib.repeatL [48] (4 - (showN ((toB 10000 a).getD x 0)).length)) ++ (showN ((toB 10000 a).getD x 0)))]) en133 rfl (write_ok hbl om) ?_);rintro aoq aor ⟨rfl, hbl2, ib⟩;have cf := KB.blk ib om dc cf;have E := Below.trans E (Below.mono ib.low om);have aos := ib.low.size;have Kp := KB.wr Kp ib;have hbl := hbl2;refine go ?_;exact ⟨Kp.others hbl0, fun hq => ⟨Kp.blk om dc hq.1, Kp.rw (fun ad e => by have := uh1 ad e; omega) hq.2⟩, ⟨om, E, cf, (by rw [tx_snoc, grp_pos om]; exact hbl)⟩⟩;refine go ?_;have hwl : (showN ((toB 10000 a).getD x 0)).length ≤ 8 := by omega
  refine l_op (k_callA (vs := [.pointer (some ⟨e9.heap.size, 0, none⟩), S (showN ((toB 10000 a).getD x 0))]) en133 rfl (write_ok hbl om) ?_);rintro aot aou ⟨rfl, hbl2, kx⟩;have cf := KB.blk kx om dc cf;have E := Below.trans E (Below.mono kx.low om);have aov := kx.low.size;have Kp := KB.wr Kp kx;have hbl := hbl2;refine go ?_;exact ⟨Kp.others hbl0, fun hq => ⟨Kp.blk om dc hq.1, Kp.rw (fun ad e => by have := uh1 ad e; omega) hq.2⟩, ⟨om, E, cf, (by rw [tx_snoc, grp_neg om]; exact hbl)⟩⟩
 case stop =>
  exact fun _ _ _ _ _ _ h _ => h.elim
 case done =>
  rintro D W hD ⟨zwl, E, cf, hbl⟩ hK;have zW := bz E;refine go ?_;rw [tx_all h1.len ha0] at hbl;refine l_op (k_callA (vs := [.pointer (some ⟨e9.heap.size, 0, none⟩)]) en134 rfl (string_ok hbl) ?_);rintro aow aox ⟨rfl, hbl2, ly⟩;have cf := KB.blk ly om dc cf;have hK := KB.dfr ly hbl hK;have E := Below.trans E (Below.mono ly.low om);have aoy := ly.low.size;have hbl := hbl2;refine go ?_;refine l_op (k_lenL (l := showN a) U9 rfl ?_);refine go ?_;by_cases wz : 200 < (((showN a).length : Nat) : Int);refine go ?_;refine f_outM (v := .tuple #[S ([]), .int .i64 (30)]) hK (res2 (r1 := .tmp 2) (r2 := .tmp 3) rfl ?_ ?_) ((put_dfr _).low E om) (by first | exact out_big _ ha0 (by assumption) | exact out_neg ha0 (by assumption) (by assumption) | exact out_pos ha0 (by assumption) (by assumption) | (rw [hz0]; exact out_zero _));exact res_tmp (t := 2) (by exact rfl) _;exact res_tmp (t := 3) (by exact rfl) _;refine go ?_;rcases Bool.eq_false_or_eq_true (ng) with nv | nv;refine go ?_;refine l_op (k_addS (a := [45]) (b := showN a) rfl rfl (by simp; omega) ?_);refine go ?_;refine f_outM (v := .tuple #[S (([45]) ++ (showN a)), .int .i64 (0)]) hK (res2 (r1 := .tmp 2) (r2 := .tmp 3) rfl ?_ ?_) ((put_dfr _).low E om) (by first | exact out_big _ ha0 (by assumption) | exact out_neg ha0 (by assumption) (by assumption) | exact out_pos ha0 (by assumption) (by assumption) | (rw [hz0]; exact out_zero _));exact res_tmp (t := 2) (by exact rfl) _;exact res_tmp (t := 3) (by exact rfl) _
  refine go ?_;refine f_outM (v := .tuple #[S (showN a), .int .i64 (0)]) hK (res2 (r1 := .tmp 2) (r2 := .tmp 3) rfl ?_ ?_) ((put_dfr _).low E om) (by first | exact out_big _ ha0 (by assumption) | exact out_neg ha0 (by assumption) (by assumption) | exact out_pos ha0 (by assumption) (by assumption) | (rw [hz0]; exact out_zero _));exact res_tmp (t := 2) (by exact rfl) _;exact res_tmp (t := 3) (by exact rfl) _
end Go.Proofs.YtjijfnggomhpiaaGreatDoor
namespace Go.Proofs.YtjijfnggomhpiaaGreatDoor
set_option maxRecDepth 100000
open Go Go.Eng Go.RowKit
attribute [local irreducible] wpListIn Code.wpIn Oper.wpIn Exit.then Exit.inBlock Exit.noGoto
set_option maxHeartbeats 40000000
theorem num_len {w : World} {lo n c a k : Nat} {A : Option Addr} (h : Num w lo A n c a) (hl : a < 10000 ^ k) : n ≤ k := by rw [← h.len]; exact (length_toB_le_iff 10000 om a k).2 hl
theorem val_lt {l : List UInt8} (h : isInt l = true) : valN (body l) < 10000 ^ 50 := Nat.lt_of_lt_of_le (valN_lt (isInt_num h)) dc
theorem sgn_val (l : List UInt8) : sgn (neg l) (valN (body l)) = valZ l := rfl
theorem sgn_not (ng : Bool) (a : Nat) : sgn (!ng) a = -sgn ng a := by cases ng <;> simp [sgn]
theorem and_no {a b : Bool} (h : ¬ (a && b) = true) : (a && b) = false := by simpa using h
theorem and_l {a b : Bool} (h : (a && b) = true) : a = true := by simp at h; exact h.1
theorem and_r {a b : Bool} (h : (a && b) = true) : b = true := by simp at h; exact h.2
theorem addI_ok {a b : List UInt8} (h : (isInt a && isInt b) = true) : addI a b = outI (valZ a + valZ b) := by unfold addI; rw [if_pos h]
theorem addI_no {a b : List UInt8} (h : (isInt a && isInt b) = false) : addI a b = none := by unfold addI; rw [h]; rfl
theorem subI_ok {a b : List UInt8} (h : (isInt a && isInt b) = true) : subI a b = outI (valZ a - valZ b) := by unfold subI; rw [if_pos h]
theorem subI_no {a b : List UInt8} (h : (isInt a && isInt b) = false) : subI a b = none := by unfold subI; rw [h]; rfl
theorem mulI_ok {a b : List UInt8} (h : (isInt a && isInt b) = true) : mulI a b = outI (valZ a * valZ b) := by unfold mulI; rw [if_pos h]
theorem mulI_no {a b : List UInt8} (h : (isInt a && isInt b) = false) : mulI a b = none := by unfold mulI; rw [h]; rfl
theorem gcdI_no {a b : List UInt8} (h : (isInt a && isInt b) = false) : gcdI a b = none := by unfold gcdI; rw [h]; rfl
theorem cmpS_no {a b : List UInt8} (h : (isInt a && isInt b) = false) : cmpS a b = 0 := by unfold cmpS; rw [h]; rfl
theorem gcdI_ok {a b : List UInt8} (h : (isInt a && isInt b) = true) : gcdI a b = outI (sgn false (Nat.gcd (valN (body a)) (valN (body b)))) := by
  unfold gcdI; rw [if_pos h]
  have : Int.gcd (valZ a) (valZ b) = Nat.gcd (valN (body a)) (valN (body b)) := by rw [Int.gcd, valZ_natAbs, valZ_natAbs]
  rw [this]; rfl
theorem sgn_mul (x y : Bool) (a b : Nat) : sgn (!(x == y)) (a * b) = sgn x a * sgn y b := by cases x <;> cases y <;> simp [sgn, Int.neg_mul, Int.mul_neg]
theorem sum_lt {a b : List UInt8} (ha : isInt a = true) (hb : isInt b = true) {ng : Bool} {r : Nat} {s : Int} (h : sgn ng r = valZ a + s) (hs : s = valZ b ∨ s = -valZ b) : r < 10000 ^ 51 := by
  have h1 := val_lt ha
  have h2 := val_lt hb
  have e : (sgn ng r).natAbs = r := natAbs_sgn ng r
  have ea := valZ_natAbs a
  have eb := valZ_natAbs b
  have : (10000 : Nat) ^ 51 = 10000 ^ 50 * 10000 := by rw [← Nat.pow_succ]
  generalize (10000 : Nat) ^ 50 = M at *
  omega
theorem cmp_nn {a b : List UInt8} (h : (isInt a && isInt b) = true) (ha : neg a = true) (hb : neg b = true) : cmpI ((valN (body b) : Nat) : Int) ((valN (body a) : Nat) : Int) = cmpS a b := by
  unfold cmpS; rw [if_pos h]
  refine cmpI_congr ?_ ?_ <;> (unfold valZ; rw [if_pos ha, if_pos hb]; omega)
theorem cmp_np {a b : List UInt8} (h : (isInt a && isInt b) = true) (ha : neg a = true) (hb : neg b = false) : (-1 : Int) = cmpS a b := by
  unfold cmpS; rw [if_pos h, cmpI_lt]
  have := valN_pos (isInt_num (and_l h)) (isInt_neg0 (and_l h) ha)
  unfold valZ; rw [if_pos ha, if_neg (by simp [hb])]; omega
theorem cmp_pn {a b : List UInt8} (h : (isInt a && isInt b) = true) (ha : neg a = false) (hb : neg b = true) : (1 : Int) = cmpS a b := by
  unfold cmpS; rw [if_pos h, cmpI_gt]
  have := valN_pos (isInt_num (and_r h)) (isInt_neg0 (and_r h) hb)
  have e1 : valZ a = (valN (body a) : Int) := by unfold valZ; rw [if_neg (by simp [ha])]
  have e2 : valZ b = -(valN (body b) : Int) := by unfold valZ; rw [if_pos hb]
  rw [e1, e2]; omega
theorem cmp_pp {a b : List UInt8} (h : (isInt a && isInt b) = true) (ha : neg a = false) (hb : neg b = false) : cmpI ((valN (body a) : Nat) : Int) ((valN (body b) : Nat) : Int) = cmpS a b := by
  unfold cmpS; rw [if_pos h]
  unfold valZ; rw [if_neg (by simp [ha]), if_neg (by simp [hb])]
def resD (o : Option (List UInt8 × List UInt8)) : Value := .tuple #[S (rS (o.map (·.1))), S (rS (o.map (·.2))), .int .i64 (if o.isSome then 0 else 30)]
theorem divI_no {a b : List UInt8} (h : (isInt a && isInt b) = false) : divI a b = none := by unfold divI; rw [h]; rfl
theorem divI_z {a b : List UInt8} (h : valN (body b) = 0) : divI a b = none := by
  unfold divI
  by_cases hb : isInt b = true
  · have : b = [48] := (valZ_eq_zero hb).1 (by have := valZ_natAbs b; omega)
    simp [this]
  · simp [hb]
theorem divI_ok {a b : List UInt8} (h : (isInt a && isInt b) = true) (h0 : 0 < valN (body b)) : divI a b = (outI (valZ a / valZ b)).map fun q => (q, showI (valZ a % valZ b)) := by
  have hb : b ≠ [48] := by intro e; subst e; exact absurd valN_zero (by have : body [48] = [48] := rfl; rw [this] at h0; omega)
  unfold divI
  rw [h, decide_eq_true hb]; rfl
theorem ediv_sgn (ny : Bool) (x : Int) (b : Nat) : x / sgn ny b = (if ny then -(x / (b : Int)) else x / (b : Int)) ∧ x % sgn ny b = x % (b : Int) := by
  cases ny
  · simp [sgn]
  · simp [sgn, Int.ediv_neg, Int.emod_neg]
theorem div_plain {nx ny : Bool} {a b : Nat} (hb : 0 < b) (hc : nx = false ∨ a % b = 0) : sgn (!(nx == ny)) (a / b) = sgn nx a / sgn ny b ∧ ((a % b : Nat) : Int) = sgn nx a % sgn ny b := by
  obtain ⟨e1, e2⟩ := ediv_sgn ny (sgn nx a) b
  rw [e1, e2]
  cases nx with
  | false =>
    simp only [sgn, Bool.false_eq_true, if_false]
    cases ny <;> simp
  | true =>
    have hz : a % b = 0 := by rcases hc with h | h; cases h; exact h
    have hd : (b : Int) ∣ (a : Int) := Int.natCast_dvd_natCast.2 (Nat.dvd_of_mod_eq_zero hz)
    simp only [sgn, if_true]
    rw [Int.neg_ediv_of_dvd hd, Int.emod_eq_zero_of_dvd (Int.dvd_neg.2 hd), hz]
    cases ny <;> simp
theorem div_round {ny : Bool} {a b : Nat} (hb : 0 < b) (hr : 0 < a % b) : sgn (!(true == ny)) (a / b + 1) = sgn true a / sgn ny b ∧ ((b - a % b : Nat) : Int) = sgn true a % sgn ny b := by
  obtain ⟨e1, e2⟩ := ediv_sgn ny (sgn true a) b
  rw [e1, e2]
  have hlt := Nat.mod_lt a hb
  have hdm := Nat.div_add_mod a b
  have key : (-(a : Int)) / (b : Int) = -((a / b : Nat) : Int) - 1 ∧ (-(a : Int)) % (b : Int) = ((b - a % b : Nat) : Int) := by
    refine (Int.ediv_emod_unique om).2 ⟨?_, by omega, by omega⟩
    have h3 : (a : Int) = (b : Int) * ((a / b : Nat) : Int) + ((a % b : Nat) : Int) := by rw [← Int.natCast_mul, ← Int.natCast_add, hdm]
    rw [Int.mul_sub, Int.mul_neg]
    omega
  simp only [sgn, if_true]
  rw [key.1, key.2]
  cases ny <;> simp <;> omega
theorem rS_rem {r : Nat} {x : Int} (hr : r < 10 ^ 200) (h : (r : Int) = x) : rS (outI (sgn false r)) = showI x := by
  have hf : fits x = true := by unfold fits; rw [decide_eq_true_eq]; omega
  have e : sgn false r = x := h
  rw [e]; unfold outI; rw [if_pos hf]; rfl
theorem mod_lt_pow {b : List UInt8} {r : Nat} (hb : isInt b = true) (h : r ≤ valN (body b)) : r < 10 ^ 200 := Nat.lt_of_le_of_lt h (valN_lt (isInt_num hb))
theorem rE_zero {o : Option (List UInt8)} (h : rE o = 0) : ∃ s, o = some s := by cases o with | none => simp [rE] at h | some s => exact ⟨s, rfl⟩
theorem rE_ne {o : Option (List UInt8)} (h : ¬ rE o = 0) : o = none := by cases o with | none => rfl | some s => simp [rE] at h
theorem div_out {a b : List UInt8} {q r : Nat} {ng : Bool} (h : (isInt a && isInt b) = true) (h0 : 0 < valN (body b)) (hq : sgn ng q = valZ a / valZ b) (hr : (r : Int) = valZ a % valZ b) (hl : r ≤ valN (body b)) (hE : rE (outI (sgn ng q)) = 0) :
    Value.tuple #[S (rS (outI (sgn ng q))), S (rS (outI (sgn false r))), .int .i64 0] = resD (divI a b) := by
  rw [divI_ok h h0, rS_rem (mod_lt_pow (and_r h) hl) hr, ← hq]
  obtain ⟨s, hs⟩ := rE_zero hE
  rw [hs]; rfl
theorem div_bad {a b : List UInt8} {q : Nat} {ng : Bool} (h : (isInt a && isInt b) = true) (h0 : 0 < valN (body b)) (hq : sgn ng q = valZ a / valZ b) (hE : ¬ rE (outI (sgn ng q)) = 0) :
    Value.tuple #[S [], S [], .int .i64 (rE (outI (sgn ng q)))] = resD (divI a b) := by
  rw [divI_ok h h0, ← hq, rE_ne hE]; rfl
theorem prod_lt {a b : List UInt8} (ha : isInt a = true) (hb : isInt b = true) : valN (body a) * valN (body b) < 10000 ^ 100 := by
  have h1 := val_lt ha
  have h2 := val_lt hb
  have : (10000 : Nat) ^ 100 = 10000 ^ 50 * 10000 ^ 50 := by rw [← Nat.pow_add]
  rw [this]
  exact Nat.mul_lt_mul'' h1 h2
def SgPost (lo : Nat) (ng : Bool) (a : Nat) (v : Value) (w : World) : Prop := ∃ A n c, v = .agg #[.bool ng, .slice A n c] ∧ Num w lo A n c a
theorem SgPost.ext {lo a : Nat} {ng : Bool} {v : Value} {w w' : World} (k : Ext w w') (h : SgPost lo ng a v w) : SgPost lo ng a v w' := by
  obtain ⟨A, n, c, hv, hn⟩ := h
  exact ⟨A, n, c, hv, hn.ext k⟩
theorem iAdd_ok (a b : List UInt8) (w : World) (ht : Tb w) :
    Calls Tryz.prog 63 #[S (a), S (b)] w (Ret w fun v w' => v = resI (addI a b)) := by
 by_cases hno : (isInt a && isInt b) = true;have ha := and_l hno;have hb := and_r hno;refine f_in Tryz.func63 rfl ?_;refine go ?_;refine cl en104 (both_ok _ _ _ ha hb) ?_;rintro aor wz aom ⟨A1, n1, c1, A2, n2, c2, rfl, h1, h2⟩;have cf := aom.2;have l1 := num_len h1 (val_lt ha);have l2 := num_len h2 (val_lt hb);have uh1 := h1.hi;have uh2 := h2.hi;refine go ?_;refine al inf125 (fun w7 ns nv => ?_);have h1 := Num.ext ns.2 h1;have h2 := Num.ext ns.2 h2;have cf := xt cf ns.2;refine al inf125 (fun aos mq od => ?_);have h1 := Num.ext mq.2 h1;have h2 := Num.ext mq.2 h2;have nv := be mq.2 nv;have cf := xt cf mq.2;refine SA nv (fun aot fy e9 => ?_);have h1 := Num.putU fy (fun ad e => by have := uh1 ad e; omega) h1;have h2 := Num.putU fy (fun ad e => by have := uh2 ad e; omega) h2;have od := pb fy od;have cf := plw fy cf;have aou := psz fy;refine SA od (fun aov ib kx => ?_);have h1 := Num.putU ib (fun ad e => by have := uh1 ad e; omega) h1;have h2 := Num.putU ib (fun ad e => by have := uh2 ad e; omega) h2;have e9 := pb ib e9;have cf := plw ib cf;have aow := psz ib;refine go ?_;refine clb en228 (hc := splus_ok h1 om h2 om) (hk := ?_);rintro aox aoy ly ⟨ng, r, A, n, c, rfl, hr, hs⟩;have cf := xt cf ly.2;rw [sgn_val, sgn_val] at hs;have lr := num_len hr (sum_lt ha hb hs (by exact Or.inl rfl));refine clb en109 (hc := stext_ok hr om (ht.ext cf)) (hk := ?_);rintro aoz ao0 fx rfl
 have cf := xt cf fx.2;refine go ?_;exact f_ret2 (t := 4) (u := 5) (v1 := S (rS (outI (sgn ng r)))) (v2 := .int .i64 (rE (outI (sgn ng r)))) rfl cf (by rw [addI_ok hno]; exact congrArg (fun x => resI (outI x)) hs) rfl rfl;have hno := and_no hno;refine f_in Tryz.func63 rfl ?_;refine go ?_;refine cl en104 (both_no _ _ _ hno) ?_;rintro ao1 aon aoo rfl;have cw := aoo.2;refine go ?_;refine al inf125 (fun aop aoq oq => ?_);have cw := xt cw aoq.2;refine al inf125 (fun ao2 w9 p6 => ?_);have oq := be w9.2 oq;have cw := xt cw w9.2;refine SA oq (fun ao3 r8 aol => ?_);have p6 := pb r8 p6;have cw := plw r8 cw;have ao4 := psz r8;refine SA p6 (fun ao5 sc ao6 => ?_);have aol := pb sc aol;have cw := plw sc cw;have ao7 := psz sc;refine go ?_;exact f_ret2 (t := 4) (u := 5) (v1 := S ([])) (v2 := .int .i64 (30)) rfl cw (by rw [addI_no hno]; rfl) rfl rfl
theorem iSub_ok (a b : List UInt8) (w : World) (ht : Tb w) :
    Calls Tryz.prog 91 #[S (a), S (b)] w (Ret w fun v w' => v = resI (subI a b)) := by
 by_cases hno : (isInt a && isInt b) = true;have ha := and_l hno;have hb := and_r hno;refine f_in Tryz.func91 rfl ?_;refine go ?_;refine cl en104 (both_ok _ _ _ ha hb) ?_;rintro aot w9 aoo ⟨A1, n1, c1, A2, n2, c2, rfl, h1, h2⟩;have cf := aoo.2;have l1 := num_len h1 (val_lt ha);have l2 := num_len h2 (val_lt hb);have uh1 := h1.hi;have uh2 := h2.hi;refine go ?_;refine al inf125 (fun fx od oq => ?_);have h1 := Num.ext od.2 h1;have h2 := Num.ext od.2 h2;have cf := xt cf od.2;refine al inf125 (fun aou nv p6 => ?_);have h1 := Num.ext nv.2 h1;have h2 := Num.ext nv.2 h2;have oq := be nv.2 oq;have cf := xt cf nv.2;refine SA oq (fun aov ib cw => ?_);have h1 := Num.putU ib (fun ad e => by have := uh1 ad e; omega) h1;have h2 := Num.putU ib (fun ad e => by have := uh2 ad e; omega) h2;have p6 := pb ib p6;have cf := plw ib cf;have aow := psz ib;refine SA p6 (fun aox kx aol => ?_);have h1 := Num.putU kx (fun ad e => by have := uh1 ad e; omega) h1;have h2 := Num.putU kx (fun ad e => by have := uh2 ad e; omega) h2;have cw := pb kx cw;have cf := plw kx cf;have aoy := psz kx;refine go ?_;refine SO aol (fun aoz ly mq => ?_);have h1 := Num.putU ly (fun ad e => by have := uh1 ad e; omega) h1;have h2 := Num.putU ly (fun ad e => by have := uh2 ad e; omega) h2;have cw := pb ly cw;have cf := plw ly cf;have ao0 := psz ly;refine go ?_;refine clb en228 (hc := splus_ok h1 om h2 om) (hk := ?_)
 rintro ao1 ao2 ns ⟨ng, r, A, n, c, rfl, hr, hs⟩;have cf := xt cf ns.2;rw [sgn_val, sgn_not, sgn_val] at hs;have lr := num_len hr (sum_lt ha hb hs (by exact Or.inr rfl));refine clb en109 (hc := stext_ok hr om (ht.ext cf)) (hk := ?_);rintro ao3 ao4 fy rfl;have cf := xt cf fy.2;refine go ?_;exact f_ret2 (t := 4) (u := 5) (v1 := S (rS (outI (sgn ng r)))) (v2 := .int .i64 (rE (outI (sgn ng r)))) rfl cf (by rw [subI_ok hno]; rw [show valZ a - valZ b = valZ a + -valZ b from rfl]; exact congrArg (fun x => resI (outI x)) hs) rfl rfl;have hno := and_no hno;refine f_in Tryz.func91 rfl ?_;refine go ?_;refine cl en104 (both_no _ _ _ hno) ?_;rintro ao5 aop aoq rfl;have e9 := aoq.2;refine go ?_;refine al inf125 (fun aor aos r8 => ?_);have e9 := xt e9 aos.2;refine al inf125 (fun ao6 aom sc => ?_);have r8 := be aom.2 r8;have e9 := xt e9 aom.2;refine SA r8 (fun ao7 wz aon => ?_);have sc := pb wz sc;have e9 := plw wz e9;have ao8 := psz wz;refine SA sc (fun ao9 w7 apa => ?_);have aon := pb w7 aon;have e9 := plw w7 e9;have apb := psz w7;refine go ?_;exact f_ret2 (t := 4) (u := 5) (v1 := S ([])) (v2 := .int .i64 (30)) rfl e9 (by rw [subI_no hno]; rfl) rfl rfl
theorem iMul_ok (a b : List UInt8) (w : World) (ht : Tb w) :
    Calls Tryz.prog 90 #[S (a), S (b)] w (Ret w fun v w' => v = resI (mulI a b)) := by
 by_cases hno : (isInt a && isInt b) = true;have ha := and_l hno;have hb := and_r hno;refine f_in Tryz.func90 rfl ?_;refine go ?_;refine cl en104 (both_ok _ _ _ ha hb) ?_;rintro apd ib ao1 ⟨A1, n1, c1, A2, n2, c2, rfl, h1, h2⟩;have e9 := ao1.2;have l1 := num_len h1 (val_lt ha);have l2 := num_len h2 (val_lt hb);have uh1 := h1.hi;have uh2 := h2.hi;refine go ?_;refine al inf125 (fun kx aos aot => ?_);have h1 := Num.ext aos.2 h1;have h2 := Num.ext aos.2 h2;have e9 := xt e9 aos.2;refine al inf125 (fun ape p6 aou => ?_);have h1 := Num.ext p6.2 h1;have h2 := Num.ext p6.2 h2;have aot := be p6.2 aot;have e9 := xt e9 p6.2;refine SA aot (fun apf ly cf => ?_);have h1 := Num.putU ly (fun ad e => by have := uh1 ad e; omega) h1;have h2 := Num.putU ly (fun ad e => by have := uh2 ad e; omega) h2;have aou := pb ly aou;have e9 := plw ly e9;have apg := psz ly;refine SA aou (fun ao2 mq cw => ?_);have h1 := Num.putU mq (fun ad e => by have := uh1 ad e; omega) h1;have h2 := Num.putU mq (fun ad e => by have := uh2 ad e; omega) h2;have cf := pb mq cf;have e9 := plw mq e9;have aph := psz mq;refine go ?_;obtain ⟨L, hL⟩ : ∃ L, L = ao2.heap.size := ⟨_, rfl⟩;have lr0 := prod_lt ha hb;refine c_an 14 ?_;refine sf ?_;refine sf_ap (fun apv apw w9 apx => by refine l_op (k_neqB (a := neg a) (b := neg b) (q := (!((neg a) == (neg b)))) U4 rfl rfl rfl ?_);refine go ?_;exact finp) ?_
 refine sf ?_;refine sf_ah (fun v w => NumPost L (valN (body a) * valN (body b)) v w) (hs := fun _ _ _ k h => h.ext k) (fun aqa aqb ns aqc => ?_) ?_;have h1 := Num.ext ns h1;have h2 := Num.ext ns h2;refine clb en231 (hc := times_ok h1 om h2 om) (hk := ?_);rintro aqd aqe nv ⟨Ar, nr, cr, rfl, hr⟩;have ao3 := nv.2;have hr := hr.mono (lo' := L) (by have := bz ns; omega);refine go ?_;exact fs ⟨ao3, ⟨Ar, nr, cr, rfl, hr⟩⟩;refine sf_ah (fun v w => SgPost L (!(neg a == neg b)) (valN (body a) * valN (body b)) v w) (hs := fun _ _ _ k h => h.ext k) (fun aqf aqg aop ao4 => ?_) ?_;obtain ⟨Ar, nr, cr, ao5, hr⟩ := (ao4 9 27 rfl rfl);refine l_op (k_build (vs := [(0, .bool ((!((neg a) == (neg b))))), (1, .slice (Ar) (nr) (cr))]) (cells := #[.bool ((!((neg a) == (neg b)))), .slice (Ar) (nr) (cr)]) (pl := [(0, 1), (1, 1)]) U125 inf125 (by kernel_rfl) (cons_eqp rfl (cons_eqp ao5 rfl)) (by kernel_rfl) ?_);refine go ?_;exact fs ⟨Ext.refl _, ⟨Ar, nr, cr, rfl, hr⟩⟩;refine sf_ae (V := .tuple #[S (rS (outI (sgn (!(neg a == neg b)) (valN (body a) * valN (body b))))), .int .i64 (rE (outI (sgn (!(neg a == neg b)) (valN (body a) * valN (body b)))))]) (fun aqh aqi od ao6 => ?_) ?_;obtain ⟨Aq, nq, cq, ao7, hq⟩ := (ao6 10 28 rfl rfl);have lq := num_len hq (prod_lt ha hb);refine clb en109 (hc := stext_ok hq om (ht.ext (xt e9 od))) (hk := ?_) (hv := cons_eq ao7 rfl);rintro aqj aqk fy rfl;have ao8 := fy.2;refine go ?_;exact fs ⟨ao8, rfl⟩;refine sf ?_;intro aqr aqs oq aqt
 have e9 := xt e9 oq.2;refine go ?_;exact f_ret2 (t := 4) (u := 5) (v1 := S (rS (outI (sgn (!(neg a == neg b)) (valN (body a) * valN (body b)))))) (v2 := .int .i64 (rE (outI (sgn (!(neg a == neg b)) (valN (body a) * valN (body b)))))) rfl e9 (by rw [mulI_ok hno, ← sgn_val, ← sgn_val, ← sgn_mul]; rfl) rfl rfl;have hno := and_no hno;refine f_in Tryz.func90 rfl ?_;refine go ?_;refine cl en104 (both_no _ _ _ hno) ?_;rintro aqu ao9 apa rfl;have fx := apa.2;refine go ?_;refine al inf125 (fun apb apc aov => ?_);have fx := xt fx apc.2;refine al inf125 (fun aqv aoz aow => ?_);have aov := be aoz.2 aov;have fx := xt fx aoz.2;refine SA aov (fun aqw aox ao0 => ?_);have aow := pb aox aow;have fx := plw aox fx;have aqx := psz aox;refine SA aow (fun aqy aoy aqz => ?_);have ao0 := pb aoy ao0;have fx := plw aoy fx;have aq0 := psz aoy;refine go ?_;exact f_ret2 (t := 4) (u := 5) (v1 := S ([])) (v2 := .int .i64 (30)) rfl fx (by rw [mulI_no hno]; rfl) rfl rfl
theorem iCmp_ok (a b : List UInt8) (w : World) :
    Calls Tryz.prog 32 #[S (a), S (b)] w (Ret w fun v w' => v = .int .i64 (cmpS a b)) := by
 by_cases hno : (isInt a && isInt b) = true;have ha := and_l hno;have hb := and_r hno;refine f_in Tryz.func32 rfl ?_;refine go ?_;refine cl en104 (both_ok _ _ _ ha hb) ?_;rintro aou cw aop ⟨A1, n1, c1, A2, n2, c2, rfl, h1, h2⟩;have cf := aop.2;have l1 := num_len h1 (val_lt ha);have l2 := num_len h2 (val_lt hb);have uh1 := h1.hi;have uh2 := h2.hi;refine go ?_;refine al inf125 (fun fx oq p6 => ?_);have h1 := Num.ext oq.2 h1;have h2 := Num.ext oq.2 h2;have cf := xt cf oq.2;refine al inf125 (fun aov od r8 => ?_);have h1 := Num.ext od.2 h1;have h2 := Num.ext od.2 h2;have p6 := be od.2 p6;have cf := xt cf od.2;refine SA p6 (fun aow ly e9 => ?_);have h1 := Num.putU ly (fun ad e => by have := uh1 ad e; omega) h1;have h2 := Num.putU ly (fun ad e => by have := uh2 ad e; omega) h2;have r8 := pb ly r8;have cf := plw ly cf;have aox := psz ly;refine SA r8 (fun aoy mq kx => ?_);have h1 := Num.putU mq (fun ad e => by have := uh1 ad e; omega) h1;have h2 := Num.putU mq (fun ad e => by have := uh2 ad e; omega) h2;have e9 := pb mq e9;have cf := plw mq cf;have aoz := psz mq;refine go ?_;rcases Bool.eq_false_or_eq_true (neg a) with fy | fy;refine go ?_;rcases Bool.eq_false_or_eq_true (neg b) with sc | sc;refine go ?_;refine clb en110 (hc := compare_ok h2 om h1) (hk := ?_);rintro ao0 ao1 ns rfl;have cf := xt cf ns.2;refine go ?_;exact f_ret1 (t := 4) (v := .int .i64 (cmpI ((valN (body b) : Nat) : Int) ((valN (body a) : Nat) : Int))) rfl cf (congrArg (Value.int .i64) (by first | exact cmp_nn hno (by assumption) (by assumption) | exact cmp_np hno (by assumption) (by assumption) | exact cmp_pn hno (by assumption) (by assumption) | exact cmp_pp hno (by assumption) (by assumption))) rfl
 refine go ?_;exact f_ret1 (t := 4) (v := .int .i64 ((-1))) rfl cf (congrArg (Value.int .i64) (by first | exact cmp_nn hno (by assumption) (by assumption) | exact cmp_np hno (by assumption) (by assumption) | exact cmp_pn hno (by assumption) (by assumption) | exact cmp_pp hno (by assumption) (by assumption))) rfl;refine go ?_;rcases Bool.eq_false_or_eq_true (neg b) with wz | wz;refine go ?_;exact f_ret1 (t := 4) (v := .int .i64 (1)) rfl cf (congrArg (Value.int .i64) (by first | exact cmp_nn hno (by assumption) (by assumption) | exact cmp_np hno (by assumption) (by assumption) | exact cmp_pn hno (by assumption) (by assumption) | exact cmp_pp hno (by assumption) (by assumption))) rfl;refine go ?_;refine clb en110 (hc := compare_ok h1 om h2) (hk := ?_);rintro ao2 ao3 nv rfl;have cf := xt cf nv.2;refine go ?_;exact f_ret1 (t := 4) (v := .int .i64 (cmpI ((valN (body a) : Nat) : Int) ((valN (body b) : Nat) : Int))) rfl cf (congrArg (Value.int .i64) (by first | exact cmp_nn hno (by assumption) (by assumption) | exact cmp_np hno (by assumption) (by assumption) | exact cmp_pn hno (by assumption) (by assumption) | exact cmp_pp hno (by assumption) (by assumption))) rfl;have hno := and_no hno;refine f_in Tryz.func32 rfl ?_;refine go ?_;refine cl en104 (both_no _ _ _ hno) ?_;rintro ao4 aoq aor rfl;have ib := aor.2;refine go ?_;refine al inf125 (fun aos aot w7 => ?_);have ib := xt ib aot.2;refine al inf125 (fun ao5 aon w9 => ?_);have w7 := be aon.2 w7;have ib := xt ib aon.2
 refine SA w7 (fun ao6 aol aoo => ?_);have w9 := pb aol w9;have ib := plw aol ib;have ao7 := psz aol;refine SA w9 (fun ao8 aom ao9 => ?_);have aoo := pb aom aoo;have ib := plw aom ib;have apa := psz aom;refine go ?_;exact f_ret1 (t := 4) (v := .int .i64 (0)) rfl ib (by rw [cmpS_no hno]) rfl
end Go.Proofs.YtjijfnggomhpiaaGreatDoor
namespace Go.Proofs.YtjijfnggomhpiaaGreatDoor
set_option maxRecDepth 100000
open Go Go.Eng Go.RowKit
attribute [local irreducible] wpListIn Code.wpIn Oper.wpIn Exit.then Exit.inBlock Exit.noGoto
set_option maxHeartbeats 40000000
theorem num_one {w : World} {lo : Nat} {A : Option Addr} (h : Rw w lo A [Value.int .i64 1]) : Num w lo A 1 1 1 := by
  have e : toB 10000 1 = [1] := by decide
  exact ⟨by rw [e]; exact h, by rw [e]; rfl, Nat.le_refl _⟩
theorem dvp {a b : List UInt8} (h0 : 0 < valN (body b)) (hc : neg a = false ∨ valN (body a) % valN (body b) = 0) : sgn (!(neg a == neg b)) (valN (body a) / valN (body b)) = valZ a / valZ b ∧ ((valN (body a) % valN (body b) : Nat) : Int) = valZ a % valZ b :=
  div_plain h0 hc
theorem dvr {a b : List UInt8} (h0 : 0 < valN (body b)) (ha : neg a = true) (hr : 0 < valN (body a) % valN (body b)) : sgn (!(neg a == neg b)) (valN (body a) / valN (body b) + 1) = valZ a / valZ b ∧ ((valN (body b) - valN (body a) % valN (body b) : Nat) : Int) = valZ a % valZ b := by
  have := div_round (ny := neg b) h0 hr
  rw [← ha] at this
  exact this
theorem div_lt50 {a b : Nat} (h : a < 10000 ^ 50) : a / b < 10000 ^ 50 := Nat.lt_of_le_of_lt (Nat.div_le_self a b) h
theorem succ_lt51 {a : Nat} (h : a < 10000 ^ 50) : a + 1 < 10000 ^ 51 := by
  have : (10000 : Nat) ^ 51 = 10000 ^ 50 * 10000 := by rw [← Nat.pow_succ]
  generalize (10000 : Nat) ^ 50 = M at *
  omega
theorem gcd_step {x y G : Nat} (h : Nat.gcd x y = G) : Nat.gcd y (x % y) = G := by rw [Nat.gcd_comm, ← Nat.gcd_rec, Nat.gcd_comm]; exact h
theorem one_ok {w : World} :
    Calls Tryz.prog 78 #[] w (Ret w fun v w' => ∃ A n c, v = .slice A n c ∧ Num w' w.heap.size A n c 1) := by
 refine f_in Tryz.func78 rfl ?_;refine go ?_;refine BS (fun fx cf fy cw => ?_);have e9 := cf;have ib := bz cf;refine go ?_;exact f_ret1 (t := 0) (v := .slice (some ⟨w.heap.size, 0, none⟩) (1) (1)) rfl e9 ⟨_, _, _, rfl, num_one (Rw.of_own cw)⟩ rfl
theorem iDiv_ok (a b : List UInt8) (w : World) (ht : Tb w) :
    Calls Tryz.prog 31 #[S (a), S (b)] w (Ret w fun v w' => v = resD (divI a b)) := by
 by_cases hno : (isInt a && isInt b) = true;have ha := and_l hno;have hb := and_r hno;refine f_in Tryz.func31 rfl ?_;refine go ?_;refine cl en104 (both_ok _ _ _ ha hb) ?_;rintro apm fx ao9 ⟨A1, n1, c1, A2, n2, c2, rfl, h1, h2⟩;have e9 := ao9.2;have l1 := num_len h1 (val_lt ha);have l2 := num_len h2 (val_lt hb);have uh1 := h1.hi;have uh2 := h2.hi;refine go ?_;refine al inf125 (fun fy aou aov => ?_);have h1 := Num.ext aou.2 h1;have h2 := Num.ext aou.2 h2;have e9 := xt e9 aou.2;refine al inf125 (fun apn aot aow => ?_);have h1 := Num.ext aot.2 h1;have h2 := Num.ext aot.2 h2;have aov := be aot.2 aov;have e9 := xt e9 aot.2;refine SA aov (fun apo aoq cf => ?_);have h1 := Num.putU aoq (fun ad e => by have := uh1 ad e; omega) h1;have h2 := Num.putU aoq (fun ad e => by have := uh2 ad e; omega) h2;have aow := pb aoq aow;have e9 := plw aoq e9;have apq := psz aoq;refine SA aow (fun apr aor cw => ?_);have h1 := Num.putU aor (fun ad e => by have := uh1 ad e; omega) h1;have h2 := Num.putU aor (fun ad e => by have := uh2 ad e; omega) h2;have cf := pb aor cf;have e9 := plw aor e9;have aps := psz aor;refine go ?_;by_cases ao1 : (n2 : Int) = 0;have h0 : valN (body b) = 0 := toB_nil (B := 10000) om (h2.len.trans om);refine go ?_;exact f_ret3 (t := 4) (u := 5) (s := 6) (v1 := S ([])) (v2 := S ([])) (v3 := .int .i64 (30)) rfl e9 (by first | exact div_out hno h0 hdv.1 hdv.2 hrl (by assumption) | exact div_bad hno h0 hdv.1 (by assumption) | (rw [divI_z h0]; rfl)) rfl rfl rfl
 have h0 : 0 < valN (body b) := toB_ne (B := 10000) om (by rw [h2.len]; omega);refine go ?_;refine clb en105 (hc := over_ok h1 om h2 om h0) (hk := ?_);rintro apt apa aos ⟨Aq, nq, cq, Ar, nr, cr, rfl, hq, hr⟩;have h2 := Num.ext aos.2 h2;have cf := be aos.2 cf;have cw := be aos.2 cw;have e9 := xt e9 aos.2;have lq := num_len hq (div_lt50 (val_lt ha));have lr := num_len hr (Nat.lt_trans (Nat.mod_lt _ h0) (val_lt hb));refine go ?_;rcases Bool.eq_false_or_eq_true (neg a) with ib | ib;refine go ?_;by_cases ao2 : 0 < (nr : Int);have hr0 : 0 < valN (body a) % valN (body b) := toB_ne (B := 10000) om (by rw [hr.len]; omega);have hdv := dvr h0 ib hr0;have hrl : valN (body b) - valN (body a) % valN (body b) ≤ valN (body b) := Nat.sub_le _ _;refine go ?_;obtain ⟨L, hL⟩ : ∃ L, L = apa.heap.size := ⟨_, rfl⟩;have hmle : valN (body a) % valN (body b) ≤ valN (body b) := Nat.le_of_lt (Nat.mod_lt _ h0);have hln : nr ≤ n2 := by rw [← hr.len, ← h2.len]; exact len_mono om hmle
 have l1' := lq;refine c_an 7 ?_;refine sf ?_;refine sf_ah (fun v w => NumPost L (1) v w) (hs := fun _ _ _ k h => h.ext k) (fun apx apy nv apz => ?_) ?_;refine cl en107 (one_ok) ?_;rintro ap0 ap1 od ⟨A1c, n1c, c1c, rfl, h1c⟩;have apb := od.2;have h1c := h1c.mono (lo' := L) (by have := bz nv; omega);refine go ?_;exact fs ⟨apb, ⟨A1c, n1c, c1c, rfl, h1c⟩⟩;refine sf_ah (fun v w => NumPost L (valN (body a) / valN (body b) + 1) v w) (hs := fun _ _ _ k h => h.ext k) (fun ap2 ap3 oq apc => ?_) ?_;obtain ⟨A1c, n1c, c1c, apd, h1c⟩ := (apc 1 47 rfl rfl);have l1c := num_len (k := 1) h1c dc;have hq := Num.ext oq hq;refine clb en106 (hc := plus_ok hq om h1c om) (hk := ?_) (hv := cons_eq rfl (cons_eq apd rfl));rintro ap4 ap5 ns ⟨Ap, np, cp, rfl, hp⟩;have ape := ns.2;have hp := hp.mono (lo' := L) (by have := bz oq; omega);refine go ?_;exact fs ⟨ape, ⟨Ap, np, cp, rfl, hp⟩⟩;refine sf ?_;refine sf_ah (fun v w => NumPost L (valN (body b) - valN (body a) % valN (body b)) v w) (hs := fun _ _ _ k h => h.ext k) (fun aqf aqg p6 aqh => ?_) ?_;have h2 := Num.ext p6 h2;have hr := Num.ext p6 hr;refine clb en108 (hc := minus_ok h2 om hr om hmle hln) (hk := ?_);rintro aqi aqj r8 ⟨Am, nm, cm, rfl, hm⟩;have apf := r8.2;have hm := hm.mono (lo' := L) (by have := bz p6; omega);refine go ?_;exact fs ⟨apf, ⟨Am, nm, cm, rfl, hm⟩⟩;refine sf ?_;intro aqk aql sc ao3;have cf := be sc.2 cf;have cw := be sc.2 cw;have e9 := xt e9 sc.2;obtain ⟨Ap, np, cp, apg, hp⟩ := (ao3 2 48 rfl rfl)
 obtain ⟨Am, nm, cm, aph, hm⟩ := (ao3 6 52 rfl rfl);refine go ?_;have lp := num_len hp (succ_lt51 (div_lt50 (val_lt ha)));have lm := num_len hm (Nat.lt_of_le_of_lt (Nat.sub_le _ _) (val_lt hb));refine go ?_;refine l_op (k_neqB (a := neg a) (b := neg b) (q := (!((neg a) == (neg b)))) U4 rfl rfl rfl ?_);refine go ?_;refine clb en109 (hc := stext_ok hp om (ht.ext e9)) (hk := ?_);rintro aqm aqn kx rfl;have hm := Num.ext kx.2 hm;have e9 := xt e9 kx.2;refine go ?_;by_cases ao4 : (rE (outI (sgn (!((neg a) == (neg b))) (valN (body a) / valN (body b) + 1)))) = 0;refine go ?_;refine l_op (k_build (vs := [(1, .slice (Am) (nm) (cm))]) (cells := #[.bool (false), .slice (Am) (nm) (cm)]) (pl := [(0, 1), (1, 1)]) U125 inf125 (by kernel_rfl) rfl (by kernel_rfl) ?_);refine clb en109 (hc := stext_ok hm om (ht.ext e9)) (hk := ?_);rintro aqo aqp ly rfl;have e9 := xt e9 ly.2;refine go ?_;exact f_ret3 (t := 4) (u := 5) (s := 6) (v1 := S (rS (outI (sgn (!((neg a) == (neg b))) (valN (body a) / valN (body b) + 1))))) (v2 := S (rS (outI (sgn false (valN (body b) - valN (body a) % valN (body b)))))) (v3 := .int .i64 (0)) rfl e9 (by first | exact div_out hno h0 hdv.1 hdv.2 hrl (by assumption) | exact div_bad hno h0 hdv.1 (by assumption) | (rw [divI_z h0]; rfl)) rfl rfl rfl;refine go ?_;exact f_ret3 (t := 4) (u := 5) (s := 6) (v1 := S ([])) (v2 := S ([])) (v3 := .int .i64 (rE (outI (sgn (!((neg a) == (neg b))) (valN (body a) / valN (body b) + 1))))) rfl e9 (by first | exact div_out hno h0 hdv.1 hdv.2 hrl (by assumption) | exact div_bad hno h0 hdv.1 (by assumption) | (rw [divI_z h0]; rfl)) rfl rfl rfl
 have hr0 : valN (body a) % valN (body b) = 0 := toB_nil (B := 10000) om (hr.len.trans om);have hdv := dvp (a := a) h0 (Or.inr hr0);have hrl : valN (body a) % valN (body b) ≤ valN (body b) := Nat.le_of_lt (Nat.mod_lt _ h0);refine go ?_;refine l_op (k_neqB (a := neg a) (b := neg b) (q := (!((neg a) == (neg b)))) U4 rfl rfl rfl ?_);refine go ?_;refine clb en109 (hc := stext_ok hq om (ht.ext e9)) (hk := ?_);rintro aqq aqr wz rfl;have hr := Num.ext wz.2 hr;have e9 := xt e9 wz.2;refine go ?_;by_cases ao5 : (rE (outI (sgn (!((neg a) == (neg b))) (valN (body a) / valN (body b))))) = 0;refine go ?_;refine l_op (k_build (vs := [(1, .slice (Ar) (nr) (cr))]) (cells := #[.bool (false), .slice (Ar) (nr) (cr)]) (pl := [(0, 1), (1, 1)]) U125 inf125 (by kernel_rfl) rfl (by kernel_rfl) ?_);refine clb en109 (hc := stext_ok hr om (ht.ext e9)) (hk := ?_);rintro aqs aqt w7 rfl;have e9 := xt e9 w7.2;refine go ?_;exact f_ret3 (t := 4) (u := 5) (s := 6) (v1 := S (rS (outI (sgn (!((neg a) == (neg b))) (valN (body a) / valN (body b)))))) (v2 := S (rS (outI (sgn false (valN (body a) % valN (body b)))))) (v3 := .int .i64 (0)) rfl e9 (by first | exact div_out hno h0 hdv.1 hdv.2 hrl (by assumption) | exact div_bad hno h0 hdv.1 (by assumption) | (rw [divI_z h0]; rfl)) rfl rfl rfl;refine go ?_;exact f_ret3 (t := 4) (u := 5) (s := 6) (v1 := S ([])) (v2 := S ([])) (v3 := .int .i64 (rE (outI (sgn (!((neg a) == (neg b))) (valN (body a) / valN (body b)))))) rfl e9 (by first | exact div_out hno h0 hdv.1 hdv.2 hrl (by assumption) | exact div_bad hno h0 hdv.1 (by assumption) | (rw [divI_z h0]; rfl)) rfl rfl rfl
 have hdv := dvp h0 (Or.inl ib);have hrl : valN (body a) % valN (body b) ≤ valN (body b) := Nat.le_of_lt (Nat.mod_lt _ h0);refine go ?_;refine l_op (k_neqB (a := neg a) (b := neg b) (q := (!((neg a) == (neg b)))) U4 rfl rfl rfl ?_);refine go ?_;refine clb en109 (hc := stext_ok hq om (ht.ext e9)) (hk := ?_);rintro aqu aqv w9 rfl;have hr := Num.ext w9.2 hr;have e9 := xt e9 w9.2;refine go ?_;by_cases ao6 : (rE (outI (sgn (!((neg a) == (neg b))) (valN (body a) / valN (body b))))) = 0;refine go ?_;refine l_op (k_build (vs := [(1, .slice (Ar) (nr) (cr))]) (cells := #[.bool (false), .slice (Ar) (nr) (cr)]) (pl := [(0, 1), (1, 1)]) U125 inf125 (by kernel_rfl) rfl (by kernel_rfl) ?_);refine clb en109 (hc := stext_ok hr om (ht.ext e9)) (hk := ?_);rintro aqw aqx aol rfl;have e9 := xt e9 aol.2;refine go ?_;exact f_ret3 (t := 4) (u := 5) (s := 6) (v1 := S (rS (outI (sgn (!((neg a) == (neg b))) (valN (body a) / valN (body b)))))) (v2 := S (rS (outI (sgn false (valN (body a) % valN (body b)))))) (v3 := .int .i64 (0)) rfl e9 (by first | exact div_out hno h0 hdv.1 hdv.2 hrl (by assumption) | exact div_bad hno h0 hdv.1 (by assumption) | (rw [divI_z h0]; rfl)) rfl rfl rfl;refine go ?_;exact f_ret3 (t := 4) (u := 5) (s := 6) (v1 := S ([])) (v2 := S ([])) (v3 := .int .i64 (rE (outI (sgn (!((neg a) == (neg b))) (valN (body a) / valN (body b)))))) rfl e9 (by first | exact div_out hno h0 hdv.1 hdv.2 hrl (by assumption) | exact div_bad hno h0 hdv.1 (by assumption) | (rw [divI_z h0]; rfl)) rfl rfl rfl
 have hno := and_no hno;refine f_in Tryz.func31 rfl ?_;refine go ?_;refine cl en104 (both_no _ _ _ hno) ?_;rintro aqy api apj rfl;have mq := apj.2;refine go ?_;refine al inf125 (fun apk apl aox => ?_);have mq := xt mq apl.2;refine al inf125 (fun aqz ao7 aoy => ?_);have aox := be ao7.2 aox;have mq := xt mq ao7.2;refine SA aox (fun aq0 aoz ao8 => ?_);have aoy := pb aoz aoy;have mq := plw aoz mq;have aq1 := psz aoz;refine SA aoy (fun aq2 ao0 aq3 => ?_);have ao8 := pb ao0 ao8;have mq := plw ao0 mq;have aq4 := psz ao0;refine go ?_;exact f_ret3 (t := 4) (u := 5) (s := 6) (v1 := S ([])) (v2 := S ([])) (v3 := .int .i64 (30)) rfl mq (by rw [divI_no hno]; rfl) rfl rfl rfl
theorem iGcd_ok (a b : List UInt8) (w : World) (ht : Tb w) :
    Calls Tryz.prog 74 #[S (a), S (b)] w (Ret w fun v w' => v = resI (gcdI a b)) := by
 by_cases hno : (isInt a && isInt b) = true;have ha := and_l hno;have hb := and_r hno;refine f_in Tryz.func74 rfl ?_;refine go ?_;refine cl en104 (both_ok _ _ _ ha hb) ?_;rintro ao0 nv aov ⟨A1, n1, c1, A2, n2, c2, rfl, h1, h2⟩;have e9 := aov.2;have l1 := num_len h1 (val_lt ha);have l2 := num_len h2 (val_lt hb);have uh1 := h1.hi;have uh2 := h2.hi;refine go ?_;refine al inf125 (fun od aol aom => ?_);have h1 := Num.ext aol.2 h1;have h2 := Num.ext aol.2 h2;have e9 := xt e9 aol.2;refine al inf125 (fun ao1 oq aon => ?_);have h1 := Num.ext oq.2 h1;have h2 := Num.ext oq.2 h2;have aom := be oq.2 aom;have e9 := xt e9 oq.2;refine SA aom (fun ao2 ib cf => ?_);have h1 := Num.putU ib (fun ad e => by have := uh1 ad e; omega) h1;have h2 := Num.putU ib (fun ad e => by have := uh2 ad e; omega) h2;have aon := pb ib aon;have e9 := plw ib e9;have ao3 := psz ib;refine SA aon (fun ao4 kx cw => ?_);have h1 := Num.putU kx (fun ad e => by have := uh1 ad e; omega) h1;have h2 := Num.putU kx (fun ad e => by have := uh2 ad e; omega) h2;have cf := pb kx cf;have e9 := plw kx e9;have ao5 := psz kx;refine go ?_;refine c_an 5 ?_;refine sf ?_;intro apl apm ly apn;have h1 := Num.ext ly.2 h1;have h2 := Num.ext ly.2 h2;have cf := be ly.2 cf;have cw := be ly.2 cw;have e9 := xt e9 ly.2;refine go ?_;refine c_lp [(9, 12), (26, 36)] (fun kk e W => ∃ Ax : Option Addr, ∃ nx : Nat, ∃ cx : Nat, ∃ x : Nat, ∃ Ay : Option Addr, ∃ ny : Nat, ∃ cy : Nat, ∃ y : Nat, (y = kk) ∧ (e 9 = .slice (Ax) (nx) (cx)) ∧ (e 10 = .slice (Ay) (ny) (cy)) ∧ (nx ≤ 50) ∧ (ny ≤ 50) ∧ (Nat.gcd x y = Nat.gcd (valN (body a)) (valN (body b))) ∧ (Ext w W) ∧ (Blk W (nv.heap.size) 97 #[.bool (neg a), .slice (A1) (n1) (c1)]) ∧ (Blk W (od.heap.size) 97 #[.bool (neg b), .slice (A2) (n2) (c2)]) ∧ (Num W w.heap.size Ax nx cx x) ∧ (Num W w.heap.size Ay ny cy y)) ((valN (body b))) ⟨A1, n1, c1, valN (body a), A2, n2, c2, valN (body b), rfl, rfl, rfl, l1, l2, rfl, e9, cf, cw, h1, h2⟩ ?_
 rintro apo apq apr ⟨Ax, nx, cx, x, Ay, ny, cy, y, rfl, aos, w9, q1, q2, q3, fy, cf, cw, hx, hy⟩;have aps := bz fy;by_cases hm : 0 < ny;have hy0 : 0 < y := toB_ne (B := 10000) om (by rw [hy.len]; omega);refine go ?_;refine clb en105 (hc := over_ok hx om hy om hy0) (hk := ?_);rintro apt apu mq ⟨Aq, nq, cq, Ar, nr, cr, rfl, hq, hr⟩;have cf := be mq.2 cf;have cw := be mq.2 cw;have hy := Num.ext mq.2 hy;have fy := xt fy mq.2;refine go ?_;exact lend (hk := by exact Nat.mod_lt _ hy0) ⟨Ay, ny, cy, y, Ar, nr, cr, x % y, rfl, rfl, rfl, om, (by rw [← hr.len]; exact Nat.le_trans (len_mono om (Nat.le_of_lt (Nat.mod_lt _ hy0))) (by rw [hy.len]; exact q2)), (gcd_step q3), fy, cf, cw, hy, (hr.mono om)⟩;have hy0 : y = 0 := toB_nil (B := 10000) om (hy.len.trans om);rw [hy0, Nat.gcd_zero_right] at q3;refine go ?_;refine l_op (k_build (vs := [(1, .slice (Ax) (nx) (cx))]) (cells := #[.bool (false), .slice (Ax) (nx) (cx)]) (pl := [(0, 1), (1, 1)]) U125 inf125 (by kernel_rfl) rfl (by kernel_rfl) ?_);refine clb en109 (hc := stext_ok hx om (ht.ext fy)) (hk := ?_);rintro apv apw ns rfl;have fy := xt fy ns.2;refine go ?_;exact f_ret2 (t := 4) (u := 5) (v1 := S (rS (outI (sgn false x)))) (v2 := .int .i64 (rE (outI (sgn false x)))) rfl fy (by rw [gcdI_ok hno, ← q3]; rfl) rfl rfl;have hno := and_no hno;refine f_in Tryz.func74 rfl ?_;refine go ?_;refine cl en104 (both_no _ _ _ hno) ?_;rintro apx aow aox rfl
 have fx := aox.2;refine go ?_;refine al inf125 (fun aoy aoz aoo => ?_);have fx := xt fx aoz.2;refine al inf125 (fun apy aot aop => ?_);have aoo := be aot.2 aoo;have fx := xt fx aot.2;refine SA aoo (fun apz aoq aou => ?_);have aop := pb aoq aop;have fx := plw aoq fx;have ap0 := psz aoq;refine SA aop (fun ap1 aor ap2 => ?_);have aou := pb aor aou;have fx := plw aor fx;have ap3 := psz aor;refine go ?_;exact f_ret2 (t := 4) (u := 5) (v1 := S ([])) (v2 := .int .i64 (30)) rfl fx (by rw [gcdI_no hno]; rfl) rfl rfl
end Go.Proofs.YtjijfnggomhpiaaGreatDoor
namespace Go.Proofs.YtjijfnggomhpiaaGreatDoor
open Go Go.Eng Go.RowKit
def nS (n : Nat) : List UInt8 := showI (n : Int)
def Fi (n : Nat) : Prop := n < 10 ^ 200
def Fz (z : Int) : Prop := z.natAbs < 10 ^ 200
theorem Fz.fits {z : Int} (h : Fz z) : fits z = true := decide_eq_true h
theorem Fi.z {n : Nat} (h : Fi n) : Fz (n : Int) := by simpa [Fz, Fi] using h
theorem Fz.int {z : Int} (h : Fz z) : isInt (showI z) = true := isInt_showI h.fits
theorem addI_Z {a b : Int} (ha : Fz a) (hb : Fz b) (h : Fz (a + b)) : addI (showI a) (showI b) = some (showI (a + b)) := by
  rw [addI_ok (by rw [ha.int, hb.int]; rfl), valZ_showI, valZ_showI]; unfold outI; rw [if_pos h.fits]
theorem subI_Z {a b : Int} (ha : Fz a) (hb : Fz b) (h : Fz (a - b)) : subI (showI a) (showI b) = some (showI (a - b)) := by
  rw [subI_ok (by rw [ha.int, hb.int]; rfl), valZ_showI, valZ_showI]; unfold outI; rw [if_pos h.fits]
theorem mulI_Z {a b : Int} (ha : Fz a) (hb : Fz b) (h : Fz (a * b)) : mulI (showI a) (showI b) = some (showI (a * b)) := by
  rw [mulI_ok (by rw [ha.int, hb.int]; rfl), valZ_showI, valZ_showI]; unfold outI; rw [if_pos h.fits]
theorem divI_Z {a b : Int} (ha : Fz a) (hb : Fz b) (h0 : b ≠ 0) (h : Fz (a / b)) : divI (showI a) (showI b) = some (showI (a / b), showI (a % b)) := by
  rw [divI_ok (by rw [ha.int, hb.int]; rfl) (by rw [body_showI, valN_showN]; omega), valZ_showI, valZ_showI]; unfold outI; rw [if_pos h.fits]; rfl
theorem cmpS_Z {a b : Int} (ha : Fz a) (hb : Fz b) : cmpS (showI a) (showI b) = cmpI a b := by
  unfold cmpS; rw [if_pos (by rw [ha.int, hb.int]; rfl), valZ_showI, valZ_showI]
theorem lit0 : ([48] : List UInt8) = nS 0 := by decide +kernel
theorem lit1 : ([49] : List UInt8) = nS 1 := by decide +kernel
theorem lit2 : ([50] : List UInt8) = nS 2 := by decide +kernel
theorem lit4 : ([52] : List UInt8) = nS 4 := by decide +kernel
theorem showI_zero {z : Int} : (showI z = [48]) ↔ z = 0 := ⟨fun h => showI_inj (h.trans lit0), fun h => by subst h; exact lit0.symm⟩
theorem fz_div {a b : Int} (h : Fz a) (hb : 0 < b) : Fz (a / b) := by
  unfold Fz at *
  refine Nat.lt_of_le_of_lt ?_ h
  obtain ⟨k, rfl⟩ : ∃ k : Nat, b = k := ⟨b.toNat, by omega⟩
  rcases Int.eq_nat_or_neg a with ⟨n, rfl | rfl⟩
  · have : ((n : Int) / (k : Int)) = ((n / k : Nat) : Int) := rfl
    rw [this, Int.natAbs_natCast, Int.natAbs_natCast]; exact Nat.div_le_self _ _
  · have h1 : -(n : Int) ≤ -(n : Int) / (k : Int) := by
      rw [Int.le_ediv_iff_mul_le hb]
      have : (n : Int) ≤ (n : Int) * (k : Int) := by have := Int.mul_le_mul_of_nonneg_left (show (1 : Int) ≤ k by omega) (show (0 : Int) ≤ n by omega); simpa using this
      rw [Int.neg_mul]; omega
    have h2 : -(n : Int) / (k : Int) ≤ 0 := by
      refine Int.ediv_le_of_le_mul hb ?_
      simp
    omega
abbrev N2 := Nat × Nat
def upn (a b : Nat) : Nat := if a % b = 0 then a / b else a / b + 1
def ofP (S n d : Nat) : N2 := (n * S / d, upn (n * S) d)
def tmP (S : Nat) (a b : N2) : N2 := (a.1 * b.1 / S, upn (a.2 * b.2) S)
def ovP (S : Nat) (a b : N2) : N2 := (a.1 * S / b.2, upn (a.2 * S) b.1)
def byP (a : N2) (n d : Nat) : N2 := (a.1 * n / d, upn (a.2 * n) d)
def plP (a b : N2) : N2 := (a.1 + b.1, a.2 + b.2)
def miP (a b : N2) : Int × Int := ((a.1 : Int) - b.2, (a.2 : Int) - b.1)
def zP (a : N2) : Int × Int := ((a.1 : Int), (a.2 : Int))
theorem upn_le {a b : Nat} (hb : 0 < b) : upn a b ≤ a := by
  unfold upn
  split
  · exact Nat.div_le_self _ _
  · rename_i h
    have h1 := Nat.div_add_mod a b
    have h2 : a / b ≤ b * (a / b) := Nat.le_mul_of_pos_left _ hb
    omega
def Bk (k : Nat) (p : N2) : Prop := p.1 < 10 ^ k ∧ p.2 < 10 ^ k
def bdB (p : N2) : Bool := decide (p.1 < 10 ^ 95) && decide (p.2 < 10 ^ 95)
theorem bdB_ok {p : N2} (h : bdB p = true) : Bk 95 p := by simpa [bdB, Bk] using h
structure Sc (S : Nat) : Prop where
  pos : 0 < S
  lt : S < 10 ^ 95
theorem mul_lt_pow {a b k m : Nat} (ha : a < 10 ^ k) (hb : b < 10 ^ m) : a * b < 10 ^ (k + m) := by
  rw [Nat.pow_add]; exact Nat.mul_lt_mul'' ha hb
theorem lt_pow_mono {a k m : Nat} (h : a < 10 ^ k) (hl : k ≤ m) : a < 10 ^ m := Nat.lt_of_lt_of_le h (Nat.pow_le_pow_right (by omega) hl)
theorem Bk.mono {k m : Nat} {p : N2} (h : Bk k p) (hl : k ≤ m) : Bk m p := ⟨lt_pow_mono h.1 hl, lt_pow_mono h.2 hl⟩
theorem Bk.fi {k : Nat} {p : N2} (h : Bk k p) (hl : k ≤ 200) : Fi p.1 ∧ Fi p.2 := ⟨lt_pow_mono h.1 hl, lt_pow_mono h.2 hl⟩
theorem fi_pow {a k : Nat} (h : a < 10 ^ k) (hl : k ≤ 200) : Fi a := lt_pow_mono h hl
theorem fi_mul {a b k m : Nat} (ha : a < 10 ^ k) (hb : b < 10 ^ m) (hl : k + m ≤ 200) : Fi (a * b) := fi_pow (mul_lt_pow ha hb) hl
theorem tmP_bd {S : Nat} {a b : N2} (hS : 0 < S) (ha : Bk 95 a) (hb : Bk 95 b) : Bk 190 (tmP S a b) :=
  ⟨Nat.lt_of_le_of_lt (Nat.div_le_self _ _) (mul_lt_pow ha.1 hb.1), Nat.lt_of_le_of_lt (upn_le hS) (mul_lt_pow ha.2 hb.2)⟩
theorem byP_bd {a : N2} {k m n d : Nat} (hd : 0 < d) (ha : Bk k a) (hn : n < 10 ^ m) : Bk (k + m) (byP a n d) :=
  ⟨Nat.lt_of_le_of_lt (Nat.div_le_self _ _) (mul_lt_pow ha.1 hn), Nat.lt_of_le_of_lt (upn_le hd) (mul_lt_pow ha.2 hn)⟩
theorem ovP_bd {S : Nat} {a b : N2} (hS : Sc S) (h0 : 0 < b.1) (ha : Bk 95 a) : Bk 190 (ovP S a b) :=
  ⟨Nat.lt_of_le_of_lt (Nat.div_le_self _ _) (mul_lt_pow ha.1 hS.lt), Nat.lt_of_le_of_lt (upn_le h0) (mul_lt_pow ha.2 hS.lt)⟩
def tmsP (nx : Nat → N2 → N2) (t0 : N2) : Nat → N2
  | 0 => t0
  | k + 1 => nx (k + 1) (tmsP nx t0 k)
def totP (T : Nat → N2) : Nat → N2
  | 0 => (0, 0)
  | k + 1 => plP (totP T k) (T k)
def sumF (nx : Nat → N2 → N2) : Nat → Nat → N2 → N2 → Nat → Option N2
  | 0, _, _, _, _ => none
  | f + 1, n, t, a, l => if bdB t = true then
      (if 2 ≤ n ∧ t.2 ≤ 2 ∧ t.2 * 2 ≤ l + 2 then some (a.1 + t.1, a.2 + t.2 + (t.2 + 4)) else sumF nx f (n + 1) (nx n t) (plP a t) t.2)
    else none
def sumP (nx : Nat → N2 → N2) (t0 : N2) : Option N2 := sumF nx 1000 1 t0 (0, 0) 0
structure SumR (T : Nat → N2) (m : Nat) : Prop where
  lt : m < 1000
  bd : ∀ k ≤ m, Bk 95 (T k)
  go : ∀ k < m, k = 0 ∨ ¬ ((T k).2 ≤ 2 ∧ (T k).2 * 2 ≤ (T (k - 1)).2 + 2)
  pos : 0 < m
  stop : (T m).2 ≤ 2 ∧ (T m).2 * 2 ≤ (T (m - 1)).2 + 2
def resP (T : Nat → N2) (m : Nat) : N2 := ((totP T (m + 1)).1, (totP T (m + 1)).2 + ((T m).2 + 4))
theorem sumF_inv {nx : Nat → N2 → N2} {t0 r : N2} : ∀ (f k l : Nat), k + f ≤ 1000 → (k = 0 ∨ l = (tmsP nx t0 (k - 1)).2) → (∀ j < k, Bk 95 (tmsP nx t0 j)) → (∀ j < k, j = 0 ∨ ¬ ((tmsP nx t0 j).2 ≤ 2 ∧ (tmsP nx t0 j).2 * 2 ≤ (tmsP nx t0 (j - 1)).2 + 2)) →
    sumF nx f (k + 1) (tmsP nx t0 k) (totP (tmsP nx t0) k) l = some r → ∃ m, SumR (tmsP nx t0) m ∧ resP (tmsP nx t0) m = r
  | 0, _, _, _, _, _, _, h => by simp [sumF] at h
  | f + 1, k, l, hk, hl, hb, hg, h => by
    unfold sumF at h
    by_cases h1 : bdB (tmsP nx t0 k) = true
    · rw [if_pos h1] at h
      have hb' : ∀ j ≤ k, Bk 95 (tmsP nx t0 j) := fun j hj => by
        by_cases e : j = k
        · subst e; exact bdB_ok h1
        · exact hb j (by omega)
      split at h
      · rename_i hs
        cases h
        have hl' : l = (tmsP nx t0 (k - 1)).2 := by rcases hl with e | e; omega; exact e
        exact ⟨k, ⟨by omega, hb', hg, by omega, hs.2.1, by rw [← hl']; exact hs.2.2⟩, rfl⟩
      · rename_i hs
        refine sumF_inv f (k + 1) _ (by omega) (Or.inr rfl) (fun j hj => hb' j (by omega)) (fun j hj => ?_) h
        by_cases e : j = k
        · subst e
          by_cases e0 : j = 0
          · exact Or.inl e0
          · refine Or.inr fun hc => hs ⟨by omega, hc.1, ?_⟩
            rcases hl with e | e; omega; rw [e]; exact hc.2
        · exact hg j (by omega)
    · rw [if_neg h1] at h; cases h
theorem sumP_inv {nx : Nat → N2 → N2} {t0 r : N2} (h : sumP nx t0 = some r) : ∃ m, SumR (tmsP nx t0) m ∧ resP (tmsP nx t0) m = r :=
  sumF_inv 1000 0 0 (by omega) (Or.inl rfl) (fun j hj => by omega) (fun j hj => by omega) h
theorem totP_bd {T : Nat → N2} {m : Nat} (hT : ∀ k ≤ m, Bk 95 (T k)) : ∀ k ≤ m + 1, (totP T k).1 ≤ k * 10 ^ 95 ∧ (totP T k).2 ≤ k * 10 ^ 95
  | 0, _ => by simp [totP]
  | k + 1, hk => by
    obtain ⟨h1, h2⟩ := totP_bd hT k (by omega)
    obtain ⟨h3, h4⟩ := hT k (by omega)
    simp only [totP, plP, Nat.add_mul, Nat.one_mul]
    exact ⟨by omega, by omega⟩
theorem SumR.tot {T : Nat → N2} {m : Nat} (h : SumR T m) {k : Nat} (hk : k ≤ m + 1) : Bk 99 (totP T k) := by
  obtain ⟨h1, h2⟩ := totP_bd h.bd k hk
  have h3 : k * 10 ^ 95 ≤ 1000 * 10 ^ 95 := Nat.mul_le_mul_right _ (by have := h.lt; omega)
  have h4 : 1000 * 10 ^ 95 < 10 ^ 99 := by decide
  exact ⟨by omega, by omega⟩
theorem SumR.res {T : Nat → N2} {m : Nat} (h : SumR T m) : Bk 100 (resP T m) := by
  obtain ⟨h1, h2⟩ := h.tot (Nat.le_refl (m + 1))
  have h3 := (h.bd m (Nat.le_refl m)).2
  unfold resP
  exact ⟨by omega, by simp only; omega⟩
def halfF (S : Nat) : Nat → N2 → Nat → Option (N2 × Nat)
  | 0, _, _ => none
  | f + 1, x, h => if S < x.2 * 2 then halfF S f (byP x 1 2) (h + 1) else some (x, h)
def sqF (S : Nat) : Nat → N2 → Option N2
  | 0, a => if bdB a = true then some a else none
  | h + 1, a => if bdB a = true then sqF S h (tmP S a a) else none
def expN (S : Nat) (x : N2) (n : Nat) (t : N2) : N2 := byP (tmP S t x) 1 n
def expP (S : Nat) (x : N2) : Option N2 := if bdB x = true then (halfF S 200 x 0).bind fun p => (sumP (expN S p.1) (1 * S, 1 * S)).bind (sqF S p.2) else none
theorem half_bd {k : Nat} {x : N2} (h : Bk k x) : Bk k (byP x 1 2) :=
  ⟨Nat.lt_of_le_of_lt (by simpa [byP] using Nat.div_le_self _ _) h.1, Nat.lt_of_le_of_lt (by simpa [byP] using upn_le (a := x.2) (b := 2) (by omega)) h.2⟩
theorem half_t {S f h : Nat} {x : N2} {p : N2 × Nat} (hh : halfF S f x h = some p) (hl : S < x.2 * 2) : ∃ g, f = g + 1 ∧ halfF S g (byP x 1 2) (h + 1) = some p := by
  cases f with
  | zero => simp [halfF] at hh
  | succ g => unfold halfF at hh; rw [if_pos hl] at hh; exact ⟨g, rfl, hh⟩
theorem half_f {S f h : Nat} {x : N2} {p : N2 × Nat} (hh : halfF S f x h = some p) (hl : ¬ S < x.2 * 2) : p = (x, h) := by
  cases f with
  | zero => simp [halfF] at hh
  | succ g => unfold halfF at hh; rw [if_neg hl] at hh; cases hh; rfl
theorem sq_t {S h i : Nat} {a r : N2} (hh : sqF S (h - i) a = some r) (hl : i < h) : Bk 95 a ∧ sqF S (h - (i + 1)) (tmP S a a) = some r := by
  obtain ⟨k, hk⟩ : ∃ k, h - i = k + 1 := ⟨h - i - 1, by omega⟩
  rw [hk] at hh
  unfold sqF at hh
  rw [show h - (i + 1) = k by omega]
  split at hh
  · rename_i h1; exact ⟨bdB_ok h1, hh⟩
  · cases hh
theorem sq_f {S h i : Nat} {a r : N2} (hh : sqF S (h - i) a = some r) (hl : ¬ i < h) : a = r ∧ Bk 95 r := by
  rw [show h - i = 0 by omega] at hh
  unfold sqF at hh
  split at hh
  · rename_i h1; cases hh; exact ⟨rfl, bdB_ok h1⟩
  · cases hh
theorem exp_inv {S : Nat} {x r : N2} (h : expP S x = some r) : Bk 95 x ∧ ∃ p s, halfF S 200 x 0 = some p ∧ sumP (expN S p.1) (1 * S, 1 * S) = some s ∧ sqF S p.2 s = some r := by
  unfold expP at h
  split at h
  · rename_i h1
    refine ⟨bdB_ok h1, ?_⟩
    cases hp : halfF S 200 x 0 with
    | none => rw [hp] at h; cases h
    | some p =>
      rw [hp, Option.bind_some] at h
      cases hs : sumP (expN S p.1) (1 * S, 1 * S) with
      | none => rw [hs] at h; cases h
      | some s => rw [hs, Option.bind_some] at h; exact ⟨p, s, rfl, hs, h⟩
  · cases h
theorem sq_bd {S : Nat} : ∀ {h : Nat} {a r : N2}, sqF S h a = some r → Bk 95 r
  | 0, a, r, h => by unfold sqF at h; split at h; rename_i h1; cases h; exact bdB_ok h1; cases h
  | k + 1, a, r, h => by unfold sqF at h; split at h; exact sq_bd h; cases h
theorem exp_bd {S : Nat} {x r : N2} (h : expP S x = some r) : Bk 95 r := by
  obtain ⟨_, p, s, _, _, h3⟩ := exp_inv h
  exact sq_bd h3
def artN (S : Nat) (q : N2) (n : Nat) (u : N2) : N2 := byP (tmP S u q) (2 * n - 1) (2 * n + 1)
def artP (S : Nat) (t : N2) : Option N2 := if bdB t = true then (if bdB (tmP S t t) = true then (sumP (artN S (tmP S t t)) t).map fun r => byP r 2 1 else none) else none
theorem art_inv {S : Nat} {t r : N2} (h : artP S t = some r) : Bk 95 t ∧ Bk 95 (tmP S t t) ∧ ∃ s, sumP (artN S (tmP S t t)) t = some s ∧ r = byP s 2 1 := by
  unfold artP at h
  split at h
  · rename_i h1
    split at h
    · rename_i h2
      cases hs : sumP (artN S (tmP S t t)) t with
      | none => rw [hs] at h; cases h
      | some s => rw [hs] at h; cases h; exact ⟨bdB_ok h1, bdB_ok h2, s, rfl, rfl⟩
    · cases h
  · cases h
def hnN (S : Nat) (q : N2) (n : Nat) (u : N2) : N2 := byP (tmP S u q) 1 (2 * n + 1)
def tlN (S : Nat) (y : N2) (fr n : Nat) (u : N2) : N2 := byP (tmP S u y) 2 (fr + 2 * n)
end Go.Proofs.YtjijfnggomhpiaaGreatDoor
namespace Go.Eng
abbrev R := List UInt8 × List UInt8
def okR (a : R) : Bool := isInt a.1 && isInt a.2 && !decide (cmpS a.2 [48] ≤ 0) && decide (gcdI a.1 a.2 = some [49])
def redN (n d : Int) : Int := (if d < 0 then -n else n) / ((Int.gcd n d : Nat) : Int)
def redD (n d : Int) : Int := (if d < 0 then -d else d) / ((Int.gcd n d : Nat) : Int)
def makeR (n d : Int) : Option R := if d = 0 then none else some (showI (redN n d), showI (redD n d))
def bothF (n d : Int) : Option R := if fits n && fits d then makeR n d else none
def mulR (a b : R) : Option R := if okR a && okR b then bothF (valZ a.1 * valZ b.1) (valZ a.2 * valZ b.2) else none
def divR (a b : R) : Option R := if okR a && okR b then bothF (valZ a.1 * valZ b.2) (valZ a.2 * valZ b.1) else none
def addR (a b : R) : Option R := if okR a && okR b then (if fits (valZ a.1 * valZ b.2) && fits (valZ b.1 * valZ a.2) then bothF (valZ a.1 * valZ b.2 + valZ b.1 * valZ a.2) (valZ a.2 * valZ b.2) else none) else none
def subR (a b : R) : Option R := if okR a && okR b then (if fits (valZ a.1 * valZ b.2) && fits (valZ b.1 * valZ a.2) then bothF (valZ a.1 * valZ b.2 - valZ b.1 * valZ a.2) (valZ a.2 * valZ b.2) else none) else none
def rN (o : Option R) : List UInt8 := (o.map (·.1)).getD []
def rD (o : Option R) : List UInt8 := (o.map (·.2)).getD []
def rER (o : Option R) : Int := if o.isSome then 0 else 40
end Go.Eng
namespace Go.Proofs.YtjijfnggomhpiaaGreatDoor
set_option maxRecDepth 100000
open Go Go.Eng Go.RowKit
attribute [local irreducible] wpListIn Code.wpIn Oper.wpIn Exit.then Exit.inBlock Exit.noGoto
set_option maxHeartbeats 40000000
theorem okR_c1 {x y : List UInt8} (h : isInt x = false) : Value.bool false = .bool (okR (x, y)) := by simp [okR, h]
theorem okR_c2 {x y : List UInt8} (h : isInt y = false) : Value.bool false = .bool (okR (x, y)) := by simp [okR, h]
theorem okR_c3 {x y : List UInt8} (h : cmpS y [48] ≤ 0) : Value.bool false = .bool (okR (x, y)) := by simp [okR, h]
theorem rE_iff {o : Option (List UInt8)} {s : List UInt8} : (rE o = 0 ∧ rS o = s) ↔ o = some s := by
  cases o with
  | none => simp [rE]
  | some t => simp [rE, rS]
theorem okR_c4 {x y : List UInt8} (h1 : isInt x = true) (h2 : isInt y = true) (h3 : ¬ cmpS y [48] ≤ 0) (h4 : rE (gcdI x y) = 0) : Value.bool (decide (rS (gcdI x y) = [49])) = .bool (okR (x, y)) := by
  have : (gcdI x y = some [49]) ↔ (rS (gcdI x y) = [49]) := by rw [← rE_iff]; simp [h4]
  simp [okR, h1, h2, h3, this]
theorem okR_c5 {x y : List UInt8} (h1 : isInt x = true) (h2 : isInt y = true) (h3 : ¬ cmpS y [48] ≤ 0) (h4 : ¬ rE (gcdI x y) = 0) : Value.bool false = .bool (okR (x, y)) := by
  have : ¬ (gcdI x y = some [49]) := by rw [← rE_iff]; simp [h4]
  simp [okR, this]
def dB (bad : Bool) (o : Option (List UInt8)) : Bool := bad || o.isNone
def dS (bad : Bool) (o : Option (List UInt8)) : List UInt8 := if bad then [] else rS o
def Op2 (g : Nat) (x y : List UInt8) (o : Option (List UInt8)) : Prop := ∀ W, Tb W → Calls Tryz.prog g #[S x, S y] W (Ret W fun v _ => v = resI o)
theorem dB_f (o : Option (List UInt8)) : dB false o = !decide (rE o = 0) := by cases o <;> rfl
theorem dB_tt {bad : Bool} {o : Option (List UInt8)} (h : bad = true) : dB bad o = bad := by subst h; rfl
theorem dB_ff {bad : Bool} {o : Option (List UInt8)} (h : bad = false) : dB bad o = !decide (rE o = 0) := by subst h; exact dB_f o
def resR (o : Option R) : Value := .tuple #[.agg #[S (rN o), S (rD o)], .int .i64 (rER o)]
def redT (bad : Bool) (n d : List UInt8) : Option R :=
  if dB (dB (dB bad (gcdI n d)) ((divI n (dS bad (gcdI n d))).map (·.1))) ((divI d (dS bad (gcdI n d))).map (·.1)) = true then none
  else some (dS (dB bad (gcdI n d)) ((divI n (dS bad (gcdI n d))).map (·.1)), dS (dB (dB bad (gcdI n d)) ((divI n (dS bad (gcdI n d))).map (·.1))) ((divI d (dS bad (gcdI n d))).map (·.1)))
def redW (bad : Bool) (n d : List UInt8) : Option R :=
  if bad = true ∨ d = [48] then none
  else if cmpS d [48] < 0 then redT (dB (dB bad (subI [48] n)) (subI [48] d)) (dS bad (subI [48] n)) (dS (dB bad (subI [48] n)) (subI [48] d))
  else redT bad n d
theorem redW_1 {bad : Bool} {n d : List UInt8} (h : bad = true) : redW bad n d = none := if_pos (Or.inl h)
theorem redW_2 {bad : Bool} {n d : List UInt8} (h : d = [48]) : redW bad n d = none := if_pos (Or.inr h)
theorem redW_n {bad : Bool} {n d : List UInt8} (h1 : bad = false) (h2 : ¬ d = [48]) (h3 : cmpS d [48] < 0) : redW bad n d = redT (dB (dB bad (subI [48] n)) (subI [48] d)) (dS bad (subI [48] n)) (dS (dB bad (subI [48] n)) (subI [48] d)) := by
  unfold redW; rw [if_neg (by rw [h1]; simp [h2]), if_pos h3]
theorem redW_p {bad : Bool} {n d : List UInt8} (h1 : bad = false) (h2 : ¬ d = [48]) (h3 : ¬ cmpS d [48] < 0) : redW bad n d = redT bad n d := by
  unfold redW; rw [if_neg (by rw [h1]; simp [h2]), if_neg h3]
theorem redT_t {bad : Bool} {n d : List UInt8} (h : dB (dB (dB bad (gcdI n d)) ((divI n (dS bad (gcdI n d))).map (·.1))) ((divI d (dS bad (gcdI n d))).map (·.1)) = true) : redT bad n d = none := if_pos h
theorem redT_f {bad : Bool} {n d : List UInt8} (h : dB (dB (dB bad (gcdI n d)) ((divI n (dS bad (gcdI n d))).map (·.1))) ((divI d (dS bad (gcdI n d))).map (·.1)) = false) : redT bad n d = some (dS (dB bad (gcdI n d)) ((divI n (dS bad (gcdI n d))).map (·.1)), dS (dB (dB bad (gcdI n d)) ((divI n (dS bad (gcdI n d))).map (·.1))) ((divI d (dS bad (gcdI n d))).map (·.1))) := if_neg (by rw [h]; simp)
theorem rValid_ok (x y : List UInt8) (w : World) (ht : Tb w) :
    Calls Tryz.prog 30 #[.agg #[S (x), S (y)]] w (Ret w fun v w' => v = .bool (okR (x, y))) := by
 refine f_in Tryz.func30 rfl ?_;refine go ?_;refine bx (fun aoq aop fx => ?_);have fy := aop.2;refine go ?_;rcases Bool.eq_false_or_eq_true (isInt x) with ib | ib;rcases Bool.eq_false_or_eq_true (isInt y) with kx | kx;refine go ?_;refine cl en102 (iValid_ok x _) ?_;rintro aor aos ns rfl;have fx := be ns.2 fx;have fy := xt fy ns.2;refine go ?_;refine cl en102 (iValid_ok y _) ?_;rintro aot aou r8 rfl;have fx := be r8.2 fx;have fy := xt fy r8.2;refine go ?_;refine cl en84 (iCmp_ok y ([48]) _) ?_;rintro aov aow sc rfl;have fx := be sc.2 fx;have fy := xt fy sc.2;refine go ?_;by_cases wz : (cmpS y ([48])) ≤ 0;refine go ?_;exact f_ret1 (t := 2) (v := .bool (false)) rfl fy (by first | exact okR_c1 (by assumption) | exact okR_c2 (by assumption) | exact okR_c3 (by assumption) | exact okR_c4 (by assumption) (by assumption) (by assumption) (by assumption) | exact okR_c5 (by assumption) (by assumption) (by assumption) (by assumption)) rfl;refine go ?_;refine cl en103 (iGcd_ok x y _ (ht.ext fy)) ?_;rintro aox aoy aol rfl;have fy := xt fy aol.2;refine go ?_;by_cases ly : (rE (gcdI x y)) = 0;refine go ?_;refine eqs (b := [49]) ?_;refine go ?_;exact f_ret1 (t := 2) (v := .bool (decide ((rS (gcdI x y)) = ([49])))) rfl fy (by first | exact okR_c1 (by assumption) | exact okR_c2 (by assumption) | exact okR_c3 (by assumption) | exact okR_c4 (by assumption) (by assumption) (by assumption) (by assumption) | exact okR_c5 (by assumption) (by assumption) (by assumption) (by assumption)) rfl
 refine go ?_;exact f_ret1 (t := 2) (v := .bool (false)) rfl fy (by first | exact okR_c1 (by assumption) | exact okR_c2 (by assumption) | exact okR_c3 (by assumption) | exact okR_c4 (by assumption) (by assumption) (by assumption) (by assumption) | exact okR_c5 (by assumption) (by assumption) (by assumption) (by assumption)) rfl;refine go ?_;refine cl en102 (iValid_ok x _) ?_;rintro aoz ao0 aom rfl;have fx := be aom.2 fx;have fy := xt fy aom.2;refine go ?_;refine cl en102 (iValid_ok y _) ?_;rintro ao1 ao2 aon rfl;have fy := xt fy aon.2;refine go ?_;exact f_ret1 (t := 2) (v := .bool (false)) rfl fy (by first | exact okR_c1 (by assumption) | exact okR_c2 (by assumption) | exact okR_c3 (by assumption) | exact okR_c4 (by assumption) (by assumption) (by assumption) (by assumption) | exact okR_c5 (by assumption) (by assumption) (by assumption) (by assumption)) rfl;refine go ?_;refine cl en102 (iValid_ok x _) ?_;rintro ao3 ao4 aoo rfl;have fy := xt fy aoo.2;refine go ?_;exact f_ret1 (t := 2) (v := .bool (false)) rfl fy (by first | exact okR_c1 (by assumption) | exact okR_c2 (by assumption) | exact okR_c3 (by assumption) | exact okR_c4 (by assumption) (by assumption) (by assumption) (by assumption) | exact okR_c5 (by assumption) (by assumption) (by assumption) (by assumption)) rfl
theorem quot_cl (x y : List UInt8) (w : World) (ht : Tb w) :
    Calls Tryz.prog 137 #[S (x), S (y)] w (Ret w fun v w' => v = resI ((divI x y).map (·.1))) := by
 refine f_in Tryz.func137 rfl ?_;refine go ?_;refine cl en83 (iDiv_ok x y _ (ht.ext (Ext.refl _))) ?_;rintro ib kx fx rfl;have fy := fx.2;refine go ?_;exact f_ret2 (t := 4) (u := 5) (v1 := S (rS ((divI x y).map (·.1)))) (v2 := .int .i64 (if (divI x y).isSome then 0 else 30)) rfl fy (by cases divI x y <;> rfl) rfl rfl
theorem do_ok {b : Nat} {bad : Bool} {w : World} (hB : Blk w b 61 #[.bool bad]) (ht : Tb w) {g : Nat} {x y : List UInt8} {o : Option (List UInt8)} (heg : Enters Tryz.prog g) (hop : Op2 g x y o) :
    Calls Tryz.prog 89 #[.pointer (some ⟨b, 0, none⟩), .func (.func g) #[] #[], S (x), S (y)] w (RetA fun v w' => w.grownBy w' (some b) ∧ Blk w' b 61 #[.bool (dB bad o)] ∧ v = S (dS bad o)) := by
 have G := World.grownBy.refl w (some b);have hbl := bt hB;refine f_inA Tryz.func89 rfl ?_;refine go ?_;rcases Bool.eq_false_or_eq_true (bad) with fy | fy;refine go ?_;refine f_outA (v := S ([])) (res1  rfl ?_) ⟨G, (by first | (rw [dB_tt (by assumption)]; exact hB) | (rw [dB_ff (by assumption)]; exact hB)), (by simp [dS, *])⟩;exact res_tmp (t := 8) (by exact rfl) _;refine go ?_;refine l_op (clV (vs := [S x, S y]) (lb := []) heg rfl rfl (hop _ ht) ?_);rintro ly ns fx rfl;have fx := fx.2;have hB := be fx hB;have G := gb_ext G fx;have r8 := bz fx;refine go ?_;refine SO hB (fun sc ib kx => ?_);have G := gb_put G ib;have wz := psz ib;refine go ?_;refine f_outA (v := S (rS o)) (res1  rfl ?_) ⟨G, (by first | (rw [dB_tt (by assumption)]; exact kx) | (rw [dB_ff (by assumption)]; exact kx)), (by simp [dS, *])⟩;exact res_tmp (t := 8) (by exact rfl) _
theorem mul_ok {b : Nat} {bad : Bool} {w : World} (hB : Blk w b 61 #[.bool bad]) (ht : Tb w) (x y : List UInt8) :
    Calls Tryz.prog 39 #[.pointer (some ⟨b, 0, none⟩), S (x), S (y)] w (RetA fun v w' => w.grownBy w' (some b) ∧ Blk w' b 61 #[.bool (dB bad (mulI x y))] ∧ v = S (dS bad (mulI x y))) := by
 have G := World.grownBy.refl w (some b);have hbl := bt hB;refine f_inA Tryz.func39 rfl ?_;refine go ?_;refine l_op (k_callA (vs := [.pointer (some ⟨b, 0, none⟩), .func (.func 90) #[] #[], S (x), S (y)]) en227 rfl (do_ok (o := mulI x y) hB ht en229 (fun W hW => iMul_ok _ _ W hW)) ?_);rintro ib kx ⟨fx, fy, rfl⟩;have G := gb_trans G fx;have ly := fx.size;refine go ?_;refine f_outA (v := S (dS bad (mulI x y))) (res1  rfl ?_) ⟨G, fy, rfl⟩;exact res_tmp (t := 6) (by exact rfl) _
theorem quot_ok {b : Nat} {bad : Bool} {w : World} (hB : Blk w b 61 #[.bool bad]) (ht : Tb w) (x y : List UInt8) :
    Calls Tryz.prog 92 #[.pointer (some ⟨b, 0, none⟩), S (x), S (y)] w (RetA fun v w' => w.grownBy w' (some b) ∧ Blk w' b 61 #[.bool (dB bad ((divI x y).map (·.1)))] ∧ v = S (dS bad ((divI x y).map (·.1)))) := by
 have G := World.grownBy.refl w (some b);have hbl := bt hB;refine f_inA Tryz.func92 rfl ?_;refine go ?_;refine l_op (k_callA (vs := [.pointer (some ⟨b, 0, none⟩), .func (.func 137) #[] #[], S (x), S (y)]) en227 rfl (do_ok (o := (divI x y).map (·.1)) hB ht en232 (fun W hW => quot_cl _ _ W hW)) ?_);rintro ib kx ⟨fx, fy, rfl⟩;have G := gb_trans G fx;have ly := fx.size;refine go ?_;refine f_outA (v := S (dS bad ((divI x y).map (·.1)))) (res1  rfl ?_) ⟨G, fy, rfl⟩;exact res_tmp (t := 6) (by exact rfl) _
theorem red_ok {b : Nat} {bad : Bool} {w : World} (hB : Blk w b 61 #[.bool bad]) (ht : Tb w) (x y : List UInt8) :
    Calls Tryz.prog 40 #[.pointer (some ⟨b, 0, none⟩), S (x), S (y)] w (RetA fun v w' => w.grownBy w' (some b) ∧ (∃ q, Blk w' b 61 #[.bool q]) ∧ v = resR (redW bad x y)) := by
 have G := World.grownBy.refl w (some b);have hbl := bt hB;refine f_inA Tryz.func40 rfl ?_;refine go ?_;refine al inf36 (fun apm ao1 fx => ?_);have hB := be ao1.2 hB;have ht := Tb.ext ao1.2 ht;have G := gb_ext G ao1.2;refine go ?_;rcases Bool.eq_false_or_eq_true (bad) with kx | kx;refine go ?_;refine SA fx (fun apn aoo apg => ?_);have hB := pb aoo hB;have G := gb_putn G aoo om;have apo := psz aoo;refine go ?_;refine f_outA (v := .tuple #[.agg #[S ([]), S ([])], .int .i64 (40)]) (res2 (r1 := .cell 6 25) (r2 := .tmp 7) rfl ?_ ?_) ⟨G, ⟨_, hB⟩, (by first | (rw [redW_1 (by assumption)]; rfl) | (rw [redW_2 (by assumption)]; rfl) | (rw [redW_n (by assumption) (by assumption) (by assumption), redT_t (by assumption)]; rfl) | (rw [redW_n (by assumption) (by assumption) (by assumption), redT_f (by assumption)]; rfl) | (rw [redW_p (by assumption) (by assumption) (by assumption), redT_t (by assumption)]; rfl) | (rw [redW_p (by assumption) (by assumption) (by assumption), redT_f (by assumption)]; rfl))⟩;refine res_cellA (t := 6) (cs := [S ([]), S ([])]) (b := w.heap.size) (o := 0) U36 rfl sz36 ?_ ?_;exact rfl;exact Blk.cells apg (i := 0) rfl;exact res_tmp (t := 7) (by exact rfl) _;refine go ?_;refine eqs (b := [48]) ?_;refine go ?_;by_cases ao4 : y = ([48]);refine go ?_;refine SA fx (fun apq aop aph => ?_);have hB := pb aop hB;have G := gb_putn G aop om;have apr := psz aop;refine go ?_;refine f_outA (v := .tuple #[.agg #[S ([]), S ([])], .int .i64 (40)]) (res2 (r1 := .cell 6 25) (r2 := .tmp 7) rfl ?_ ?_) ⟨G, ⟨_, hB⟩, (by first | (rw [redW_1 (by assumption)]; rfl) | (rw [redW_2 (by assumption)]; rfl) | (rw [redW_n (by assumption) (by assumption) (by assumption), redT_t (by assumption)]; rfl) | (rw [redW_n (by assumption) (by assumption) (by assumption), redT_f (by assumption)]; rfl) | (rw [redW_p (by assumption) (by assumption) (by assumption), redT_t (by assumption)]; rfl) | (rw [redW_p (by assumption) (by assumption) (by assumption), redT_f (by assumption)]; rfl))⟩
 refine res_cellA (t := 6) (cs := [S ([]), S ([])]) (b := w.heap.size) (o := 0) U36 rfl sz36 ?_ ?_;exact rfl;exact Blk.cells aph (i := 0) rfl;exact res_tmp (t := 7) (by exact rfl) _;refine go ?_;refine cl en84 (iCmp_ok y ([48]) _) ?_;rintro aps apt aoq rfl;have hB := be aoq.2 hB;have ht := Tb.ext aoq.2 ht;have fx := be aoq.2 fx;have G := gb_ext G aoq.2;refine go ?_;by_cases ao5 : (cmpS y ([48])) < 0;refine go ?_;refine l_op (k_callA (vs := [.pointer (some ⟨b, 0, none⟩), .func (.func 91) #[] #[], S ([48]), S (x)]) en227 rfl (do_ok (o := subI ([48]) x) hB ht en226 (fun W hW => iSub_ok _ _ W hW)) ?_);rintro apu apv ⟨aor, ao6, rfl⟩;have ht := Tb.gr aor hB dc ht;have fx := Blk.gr aor (by simp; omega) fx;have G := gb_trans G aor;have apw := aor.size;refine go ?_;refine l_op (k_callA (vs := [.pointer (some ⟨b, 0, none⟩), .func (.func 91) #[] #[], S ([48]), S (y)]) en227 rfl (do_ok (o := subI ([48]) y) ao6 ht en226 (fun W hW => iSub_ok _ _ W hW)) ?_);rintro apx apy ⟨aos, ao7, rfl⟩;have ht := Tb.gr aos ao6 dc ht;have fx := Blk.gr aos (by simp; omega) fx;have G := gb_trans G aos;have apz := aos.size;refine go ?_;refine l_op (k_callA (vs := [.pointer (some ⟨b, 0, none⟩), .func (.func 74) #[] #[], S (dS bad (subI ([48]) x)), S (dS (dB bad (subI ([48]) x)) (subI ([48]) y))]) en227 rfl (do_ok (o := gcdI (dS bad (subI ([48]) x)) (dS (dB bad (subI ([48]) x)) (subI ([48]) y))) ao7 ht en103 (fun W hW => iGcd_ok _ _ W hW)) ?_);rintro ap0 ap1 ⟨aot, ao8, rfl⟩
 have ht := Tb.gr aot ao7 dc ht;have fx := Blk.gr aot (by simp; omega) fx;have G := gb_trans G aot;have ap2 := aot.size;refine go ?_;refine l_op (k_callA (vs := [.pointer (some ⟨b, 0, none⟩), S (dS bad (subI ([48]) x)), S (dS (dB (dB bad (subI ([48]) x)) (subI ([48]) y)) (gcdI (dS bad (subI ([48]) x)) (dS (dB bad (subI ([48]) x)) (subI ([48]) y))))]) en230 rfl (quot_ok ao8 ht (dS bad (subI ([48]) x)) (dS (dB (dB bad (subI ([48]) x)) (subI ([48]) y)) (gcdI (dS bad (subI ([48]) x)) (dS (dB bad (subI ([48]) x)) (subI ([48]) y))))) ?_);rintro ap3 ap4 ⟨aou, ao9, rfl⟩;have ht := Tb.gr aou ao8 dc ht;have fx := Blk.gr aou (by simp; omega) fx;have G := gb_trans G aou;have ap5 := aou.size;refine go ?_;refine l_op (k_callA (vs := [.pointer (some ⟨b, 0, none⟩), S (dS (dB bad (subI ([48]) x)) (subI ([48]) y)), S (dS (dB (dB bad (subI ([48]) x)) (subI ([48]) y)) (gcdI (dS bad (subI ([48]) x)) (dS (dB bad (subI ([48]) x)) (subI ([48]) y))))]) en230 rfl (quot_ok ao9 ht (dS (dB bad (subI ([48]) x)) (subI ([48]) y)) (dS (dB (dB bad (subI ([48]) x)) (subI ([48]) y)) (gcdI (dS bad (subI ([48]) x)) (dS (dB bad (subI ([48]) x)) (subI ([48]) y))))) ?_);rintro ap6 apa ⟨aov, fy, rfl⟩;have fx := Blk.gr aov (by simp; omega) fx;have G := gb_trans G aov;have ap7 := aov.size;refine go ?_;refine al inf36 (fun ap8 aow apb => ?_);have fy := be aow.2 fy;have fx := be aow.2 fx;have G := gb_ext G aow.2;refine SA apb (fun ap9 ly ns => ?_);have fy := pb ly fy;have fx := pb ly fx
 have G := gb_putn G ly om;have aqa := psz ly;refine go ?_;rcases Bool.eq_false_or_eq_true (dB (dB (dB (dB (dB bad (subI ([48]) x)) (subI ([48]) y)) (gcdI (dS bad (subI ([48]) x)) (dS (dB bad (subI ([48]) x)) (subI ([48]) y)))) ((divI (dS bad (subI ([48]) x)) (dS (dB (dB bad (subI ([48]) x)) (subI ([48]) y)) (gcdI (dS bad (subI ([48]) x)) (dS (dB bad (subI ([48]) x)) (subI ([48]) y))))).map (·.1))) ((divI (dS (dB bad (subI ([48]) x)) (subI ([48]) y)) (dS (dB (dB bad (subI ([48]) x)) (subI ([48]) y)) (gcdI (dS bad (subI ([48]) x)) (dS (dB bad (subI ([48]) x)) (subI ([48]) y))))).map (·.1))) with ao2 | ao2;refine go ?_;refine SA fx (fun aqb r8 api => ?_);have fy := pb r8 fy;have ns := pb r8 ns;have G := gb_putn G r8 om;have aqc := psz r8;refine go ?_;refine f_outA (v := .tuple #[.agg #[S ([]), S ([])], .int .i64 (40)]) (res2 (r1 := .cell 6 25) (r2 := .tmp 7) rfl ?_ ?_) ⟨G, ⟨_, fy⟩, (by first | (rw [redW_1 (by assumption)]; rfl) | (rw [redW_2 (by assumption)]; rfl) | (rw [redW_n (by assumption) (by assumption) (by assumption), redT_t (by assumption)]; rfl) | (rw [redW_n (by assumption) (by assumption) (by assumption), redT_f (by assumption)]; rfl) | (rw [redW_p (by assumption) (by assumption) (by assumption), redT_t (by assumption)]; rfl) | (rw [redW_p (by assumption) (by assumption) (by assumption), redT_f (by assumption)]; rfl))⟩;refine res_cellA (t := 6) (cs := [S ([]), S ([])]) (b := w.heap.size) (o := 0) U36 rfl sz36 ?_ ?_
 exact rfl;exact Blk.cells api (i := 0) rfl;exact res_tmp (t := 7) (by exact rfl) _;refine go ?_;refine SA fx (fun aqd sc apj => ?_);have fy := pb sc fy;have ns := pb sc ns;have G := gb_putn G sc om;have aqe := psz sc;refine go ?_;refine f_outA (v := .tuple #[.agg #[S (dS (dB (dB (dB bad (subI ([48]) x)) (subI ([48]) y)) (gcdI (dS bad (subI ([48]) x)) (dS (dB bad (subI ([48]) x)) (subI ([48]) y)))) ((divI (dS bad (subI ([48]) x)) (dS (dB (dB bad (subI ([48]) x)) (subI ([48]) y)) (gcdI (dS bad (subI ([48]) x)) (dS (dB bad (subI ([48]) x)) (subI ([48]) y))))).map (·.1))), S (dS (dB (dB (dB (dB bad (subI ([48]) x)) (subI ([48]) y)) (gcdI (dS bad (subI ([48]) x)) (dS (dB bad (subI ([48]) x)) (subI ([48]) y)))) ((divI (dS bad (subI ([48]) x)) (dS (dB (dB bad (subI ([48]) x)) (subI ([48]) y)) (gcdI (dS bad (subI ([48]) x)) (dS (dB bad (subI ([48]) x)) (subI ([48]) y))))).map (·.1))) ((divI (dS (dB bad (subI ([48]) x)) (subI ([48]) y)) (dS (dB (dB bad (subI ([48]) x)) (subI ([48]) y)) (gcdI (dS bad (subI ([48]) x)) (dS (dB bad (subI ([48]) x)) (subI ([48]) y))))).map (·.1)))], .int .i64 (0)]) (res2 (r1 := .cell 6 25) (r2 := .tmp 7) rfl ?_ ?_) ⟨G, ⟨_, fy⟩, (by first | (rw [redW_1 (by assumption)]; rfl) | (rw [redW_2 (by assumption)]; rfl) | (rw [redW_n (by assumption) (by assumption) (by assumption), redT_t (by assumption)]; rfl) | (rw [redW_n (by assumption) (by assumption) (by assumption), redT_f (by assumption)]; rfl) | (rw [redW_p (by assumption) (by assumption) (by assumption), redT_t (by assumption)]; rfl) | (rw [redW_p (by assumption) (by assumption) (by assumption), redT_f (by assumption)]; rfl))⟩
 refine res_cellA (t := 6) (cs := [S (dS (dB (dB (dB bad (subI ([48]) x)) (subI ([48]) y)) (gcdI (dS bad (subI ([48]) x)) (dS (dB bad (subI ([48]) x)) (subI ([48]) y)))) ((divI (dS bad (subI ([48]) x)) (dS (dB (dB bad (subI ([48]) x)) (subI ([48]) y)) (gcdI (dS bad (subI ([48]) x)) (dS (dB bad (subI ([48]) x)) (subI ([48]) y))))).map (·.1))), S (dS (dB (dB (dB (dB bad (subI ([48]) x)) (subI ([48]) y)) (gcdI (dS bad (subI ([48]) x)) (dS (dB bad (subI ([48]) x)) (subI ([48]) y)))) ((divI (dS bad (subI ([48]) x)) (dS (dB (dB bad (subI ([48]) x)) (subI ([48]) y)) (gcdI (dS bad (subI ([48]) x)) (dS (dB bad (subI ([48]) x)) (subI ([48]) y))))).map (·.1))) ((divI (dS (dB bad (subI ([48]) x)) (subI ([48]) y)) (dS (dB (dB bad (subI ([48]) x)) (subI ([48]) y)) (gcdI (dS bad (subI ([48]) x)) (dS (dB bad (subI ([48]) x)) (subI ([48]) y))))).map (·.1)))]) (b := w.heap.size) (o := 0) U36 rfl sz36 ?_ ?_;exact rfl;exact Blk.cells apj (i := 0) rfl;exact res_tmp (t := 7) (by exact rfl) _;refine go ?_;refine l_op (k_callA (vs := [.pointer (some ⟨b, 0, none⟩), .func (.func 74) #[] #[], S (x), S (y)]) en227 rfl (do_ok (o := gcdI x y) hB ht en103 (fun W hW => iGcd_ok _ _ W hW)) ?_);rintro aqf aqg ⟨aox, apc, rfl⟩;have ht := Tb.gr aox hB dc ht;have fx := Blk.gr aox (by simp; omega) fx;have G := gb_trans G aox;have aqh := aox.size;refine go ?_;refine l_op (k_callA (vs := [.pointer (some ⟨b, 0, none⟩), S (x), S (dS bad (gcdI x y))]) en230 rfl (quot_ok apc ht x (dS bad (gcdI x y))) ?_)
 rintro aqi aqj ⟨aoy, apd, rfl⟩;have ht := Tb.gr aoy apc dc ht;have fx := Blk.gr aoy (by simp; omega) fx;have G := gb_trans G aoy;have aqk := aoy.size;refine go ?_;refine l_op (k_callA (vs := [.pointer (some ⟨b, 0, none⟩), S (y), S (dS bad (gcdI x y))]) en230 rfl (quot_ok apd ht y (dS bad (gcdI x y))) ?_);rintro aql ape ⟨aoz, ib, rfl⟩;have fx := Blk.gr aoz (by simp; omega) fx;have G := gb_trans G aoz;have aqm := aoz.size;refine go ?_;refine al inf36 (fun aqn ao0 apf => ?_);have ib := be ao0.2 ib;have fx := be ao0.2 fx;have G := gb_ext G ao0.2;refine SA apf (fun aqo wz aol => ?_);have ib := pb wz ib;have fx := pb wz fx;have G := gb_putn G wz om;have aqp := psz wz;refine go ?_;rcases Bool.eq_false_or_eq_true (dB (dB (dB bad (gcdI x y)) ((divI x (dS bad (gcdI x y))).map (·.1))) ((divI y (dS bad (gcdI x y))).map (·.1))) with ao3 | ao3;refine go ?_;refine SA fx (fun aqq aom apk => ?_);have ib := pb aom ib;have aol := pb aom aol;have G := gb_putn G aom om;have aqr := psz aom;refine go ?_;refine f_outA (v := .tuple #[.agg #[S ([]), S ([])], .int .i64 (40)]) (res2 (r1 := .cell 6 25) (r2 := .tmp 7) rfl ?_ ?_) ⟨G, ⟨_, ib⟩, (by first | (rw [redW_1 (by assumption)]; rfl) | (rw [redW_2 (by assumption)]; rfl) | (rw [redW_n (by assumption) (by assumption) (by assumption), redT_t (by assumption)]; rfl) | (rw [redW_n (by assumption) (by assumption) (by assumption), redT_f (by assumption)]; rfl) | (rw [redW_p (by assumption) (by assumption) (by assumption), redT_t (by assumption)]; rfl) | (rw [redW_p (by assumption) (by assumption) (by assumption), redT_f (by assumption)]; rfl))⟩
 refine res_cellA (t := 6) (cs := [S ([]), S ([])]) (b := w.heap.size) (o := 0) U36 rfl sz36 ?_ ?_;exact rfl;exact Blk.cells apk (i := 0) rfl;exact res_tmp (t := 7) (by exact rfl) _;refine go ?_;refine SA fx (fun aqs aon apl => ?_);have ib := pb aon ib;have aol := pb aon aol;have G := gb_putn G aon om;have aqt := psz aon;refine go ?_;refine f_outA (v := .tuple #[.agg #[S (dS (dB bad (gcdI x y)) ((divI x (dS bad (gcdI x y))).map (·.1))), S (dS (dB (dB bad (gcdI x y)) ((divI x (dS bad (gcdI x y))).map (·.1))) ((divI y (dS bad (gcdI x y))).map (·.1)))], .int .i64 (0)]) (res2 (r1 := .cell 6 25) (r2 := .tmp 7) rfl ?_ ?_) ⟨G, ⟨_, ib⟩, (by first | (rw [redW_1 (by assumption)]; rfl) | (rw [redW_2 (by assumption)]; rfl) | (rw [redW_n (by assumption) (by assumption) (by assumption), redT_t (by assumption)]; rfl) | (rw [redW_n (by assumption) (by assumption) (by assumption), redT_f (by assumption)]; rfl) | (rw [redW_p (by assumption) (by assumption) (by assumption), redT_t (by assumption)]; rfl) | (rw [redW_p (by assumption) (by assumption) (by assumption), redT_f (by assumption)]; rfl))⟩;refine res_cellA (t := 6) (cs := [S (dS (dB bad (gcdI x y)) ((divI x (dS bad (gcdI x y))).map (·.1))), S (dS (dB (dB bad (gcdI x y)) ((divI x (dS bad (gcdI x y))).map (·.1))) ((divI y (dS bad (gcdI x y))).map (·.1)))]) (b := w.heap.size) (o := 0) U36 rfl sz36 ?_ ?_;exact rfl;exact Blk.cells apl (i := 0) rfl;exact res_tmp (t := 7) (by exact rfl) _
end Go.Proofs.YtjijfnggomhpiaaGreatDoor
