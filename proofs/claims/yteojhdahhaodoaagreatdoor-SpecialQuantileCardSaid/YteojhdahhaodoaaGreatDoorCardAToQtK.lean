/- Part of the proof of a statement about the special functions. -/
import Derived.Test.YteojhdahhaodoaaGreatDoorLaw3
import Derived.Test.YteojhdahhaodoaaGreatDoorTie
import Derived.Test.YteojhdahhaodoaaGreatDoorCards
import Derived.ProofKit
import Derived.OpenShut
import Derived.LaidMore
import Derived.Lay
import Derived.SevenTiedAt
import Derived.Stop.Joined
import Derived.Deep.SlicePairs
import Derived.Deep.Frames
import Derived.Deep.Onto
import Derived.WideKeyArgs
import Derived.SizedLaws
import Derived.Test.YteojhdahhaodoaaGreatDoorEngGToInt1
import Derived.Test.YteojhdahhaodoaaGreatDoorSp9ToSp14
import Derived.Test.YteojhdahhaodoaaGreatDoorSpMToLaw2
set_option linter.all false
namespace Go.Proofs.YteojhdahhaodoaaGreatDoor
open Go Go.ChangeShapes Go.WideShapes Go.ChangeAt Go.RowKit Go.Deep Go.Eng
theorem cOwn : ownKnob Tryz.prog.godebug = none := by kernel_rfl
theorem cLaid : laidOutB Tryz.prog = true := by kernel_rfl
theorem c3 : Tryz.prog.cellsOf 3 = 1 := by kernel_rfl
theorem c88 : Tryz.prog.cellsOf 22 = 2 := by kernel_rfl
theorem add_cell {W : World} {b o i : Nat} : W.cell? ((⟨b, o, none⟩ : Addr).add i) = W.cell? ⟨b, o + i, none⟩ := by unfold Addr.add; split <;> simp_all
theorem gPow : Tryz.prog.globalNamed "internal/strconv.uint64pow10" = some 4 := by kernel_rfl
theorem tPow : (Tryz.prog.globals[4]?).map (·.type) = some 206 := by kernel_rfl
theorem zPow0 : (((begin Tryz.prog (fun _ _ => 0) default).world.heap[4]?).bind Obj.row?).map (·.2) = some 206 := by kernel_rfl
theorem zPow : ∃ z, (((begin Tryz.prog (fun _ _ => 0) default).world.heap[4]?).bind Obj.row?) = some (z, 206) := by
  obtain ⟨⟨z, t⟩, h, e⟩ := Option.map_eq_some_iff.1 zPow0
  cases e; exact ⟨z, h⟩
theorem nPow : 4 < Tryz.prog.globals.size := of_decide_eq_true (by kernel_rfl)
theorem lPow : Rows.laid_internal_strconv_uint64pow10 = (.agg (Lib.pow10Tab.map fun z => DataW.lit (.int .u64 z)) : DataW Unit) := by kernel_rfl
theorem cU : Tryz.prog.cellsOf 157 = 1 := by kernel_rfl
theorem uU : Tryz.prog.underlying 157 = some (.int .u64) := by kernel_rfl
theorem cA : Tryz.prog.cellsOf 206 = 20 := by kernel_rfl
theorem kPow : Lib.pow10Tab.length = 20 := by kernel_rfl
theorem trod_cons {H : Type} {enc : TypeId × Value → H} {P : Program} {w : World} {base : Nat} {sp : Nat → Bool} {hd : Bool} {t : TypeId} {ts : List TypeId} {vs : List Value} {ds : List (DataW H)} {ps : List MemPlace}
    (h : DataW.TrodAll enc P w base sp hd (t :: ts) vs ds ps) : ∃ v vs' d ds' p q, vs = v :: vs' ∧ ds = d :: ds' ∧ DataW.Trod enc P w base sp hd t v d p ∧ DataW.TrodAll enc P w base sp hd ts vs' ds' q := by
  match vs, ds, h with
  | v :: vs', d :: ds', h =>
    obtain ⟨p, q, h1, h2, _⟩ := h
    exact ⟨v, vs', d, ds', p, q, rfl, rfl, h1, h2⟩
theorem trod_end {H : Type} {enc : TypeId × Value → H} {P : Program} {w : World} {base : Nat} {sp : Nat → Bool} {hd : Bool} {vs : List Value} {ds : List (DataW H)} {ps : List MemPlace}
    (h : DataW.TrodAll enc P w base sp hd [] vs ds ps) : vs = [] ∧ ds = [] := by
  match vs, ds, h with
  | [], [], _ => exact ⟨rfl, rfl⟩
theorem all_again {H : Type} {enc : TypeId × Value → H} {W W' : World} {sp' : Nat → Bool} (k : Ext W W') : ∀ {ts : List TypeId} {vs : List Value} {ds : List (DataW H)} {ps : List MemPlace},
    (∀ t ∈ ts, Tryz.prog.readableRec t = true ∧ t < Tryz.prog.types.size) → DataW.TrodAll enc Tryz.prog W 0 (fun _ => true) true ts vs ds ps → (∀ p ∈ ps, p.block < W.heap.size) → (∀ p ∈ ps, sp' p.block = true) → DataW.TrodAll enc Tryz.prog W' 0 sp' true ts vs ds ps
  | [], [], [], _, _, h, _, _ => h
  | t :: ts, v :: vs, d :: ds, ps, hr, h, hl, hs => by
    obtain ⟨p, q, h1, h2, rfl⟩ := h
    refine ⟨p, q, WideElems.Trod_stays cLaid (hr t (by simp)).1 (hr t (by simp)).2 h1 (fun x hx => ?_) (fun x hx => hs x (by simp [hx])), all_again k (fun u hu => hr u (by simp [hu])) h2 (fun x hx => hl x (by simp [hx])) (fun x hx => hs x (by simp [hx])), rfl⟩
    have hb := hl x (by simp [hx])
    cases x with
    | cell b o => exact World.cell?_of_block (k.block b hb)
    | map b => exact k.block b hb
  | [], [], _ :: _, _, _, h, _, _ => h.elim
  | [], _ :: _, _, _, _, h, _, _ => h.elim
  | _ :: _, [], _, _, _, h, _, _ => h.elim
  | _ :: _, _ :: _, [], _, _, h, _, _ => h.elim
theorem wf64 {n : Int} (h : (Lit.int .i64 n).wf = true) : In64 n := by
  simp only [Lit.wf, Bool.and_eq_true, decide_eq_true_eq] at h
  have e1 : IntKind.i64.min = -9223372036854775808 := rfl
  have e2 : IntKind.i64.max = 9223372036854775807 := rfl
  rw [e1, e2] at h
  unfold In64; omega
section
variable {H : Type} {enc : TypeId × Value → H} {W : World} {base fuel b0 : Nat} {x : DataW H × List MemPlace}
set_option maxRecDepth 100000 in
theorem pair_of {v : Value} (hv : Value.okWide Tryz.prog W .any b0 22 v) (h : DataW.trod enc Tryz.prog W base (fun _ => true) true fuel 22 v.cells.toList = some x) :
    ∃ a b : Int, v = .agg #[.int .i64 a, .int .i64 b] ∧ In64 a ∧ In64 b := by
  unfold Value.okWide at hv
  rw [Tryz.underlying22] at hv
  obtain ⟨cs, rfl, hs, _⟩ := hv
  rw [c88] at hs
  obtain ⟨xs, m, _, _, _, hl, hx⟩ := DataW.trod_array Tryz.underlying22 h
  obtain ⟨l⟩ := cs
  match l, hs with
  | [u, v], _ =>
    have h0 := hx 0 (by decide)
    have h1 := hx 1 (by decide)
    rw [c3] at h0 h1
    rw [List.getElem?_eq_getElem (show 0 < xs.length by omega)] at h0
    rw [List.getElem?_eq_getElem (show 1 < xs.length by omega)] at h1
    obtain ⟨a, ea, _, wa⟩ := DataW.trod_int Tryz.underlying3 h0
    obtain ⟨b, eb, _, wb⟩ := DataW.trod_int Tryz.underlying3 h1
    have ea : u = .int .i64 a := by simpa [Value.cells] using ea
    have eb : v = .int .i64 b := by simpa [Value.cells] using eb
    exact ⟨a, b, by rw [ea, eb], wf64 wa, wf64 wb⟩
end
end Go.Proofs.YteojhdahhaodoaaGreatDoor
namespace Go.Proofs.YteojhdahhaodoaaGreatDoor
open Go Go.Eng Go.RowKit
attribute [local irreducible] wpListIn Code.wpIn Oper.wpIn Exit.then Exit.inBlock Exit.noGoto
set_option maxHeartbeats 40000000
theorem turn_eq {f c g k T : Int} (hT : 0 < T) (h1 : g = -c) (h2 : k = -f) : ((qR (0 * T - k * 1) (1 * T), qR (0 * T - g * 1) (1 * T)) : R × R) = (qR f T, qR c T) := by
  subst h1 h2
  rw [show 0 * T - -f * 1 = f by omega, show 0 * T - -c * 1 = c by omega, Int.one_mul]
set_option maxRecDepth 100000 in
theorem quantile_law {n m M f c g k u v s t : Int} {pl : Nat} {w : World} (hn64 : In64 n) (hm64 : In64 m) (hp : pl ≤ 12) (hM : 1 + pickI n 999 = M) (hpl : pickI m 3 = (pl : Int)) (hQ1 : QntC M 1000 pl f c) (hQ2 : QntC (1000 - M) 1000 pl g k) (hN1 : NrmC f (tenI pl) 10 u v) (hN2 : NrmC c (tenI pl) 10 s t) (f9 : f.natAbs < 10 ^ 70) (c9 : c.natAbs < 10 ^ 70) (u9 : u.natAbs < 10 ^ 70) (t9 : t.natAbs < 10 ^ 70) (hfc : f ≤ c) (hc1 : c ≤ f + 1) (hg : g = -c) (hk : k = -f) (hu : u * 1000 ≤ M * tenI 10) (ht2 : M * tenI 10 ≤ t * 1000) (ht : Tb w) :
    Calls Tryz.prog 4 #[.int .i64 (n), .int .i64 (m)] w (Ret w fun v w' => v = .bool true) := by
 have bm := pick_bd n 999 dc;have qm : Q9 M 1000 := q9_small om om om;have hturn := turn_eq (ten_pos pl) hg hk;have hgk : g ≤ k := by omega
 have qf := q9_cell (pl := pl) f9 hp;have qc := q9_cell (pl := pl) c9 hp;have qg : Q9 g (tenI pl) := q9_cell (pl := pl) om hp;have qk : Q9 k (tenI pl) := q9_cell (pl := pl) om hp;refine f_in Tryz.func4 rfl ?_;refine go ?_;refine cl en1006 (sane6_ok (ht.ext (Ext.refl _))) ?_;rintro su sv na rfl;have ac := na.2;refine go ?_;refine clb en1011 (hc := pick6_ok n 999 _ hn64 dc) (hk := ?_);rintro sy ta nc rfl;have ac := xt ac nc.2;refine l_op (k_add (a := 1) (b := pickI n 999) (c := M) rfl rfl (by unfold In64; omega) hM ?_);refine go ?_;refine clb en1011 (hc := cEq (Y := .int .i64 pl) (pick6_ok m 3 _ hm64 dc) (congrArg (Value.int .i64) hpl)) (hk := ?_);rintro tc td nd rfl;have ac := xt ac nd.2;refine go ?_;refine clb en1009 (hc := lOf_ok (by unfold In64; omega) (by unfold In64; omega) om (ht.ext ac)) (hk := ?_);rintro te gi nf rfl;have ac := xt ac nf.2;refine al inf36 (fun tg nh ni => ?_);have ac := xt ac nh.2;refine SA ni (fun th ld en => ?_);have ac := plw ld ac;have tj := psz ld;refine go ?_;refine cl en1015 (hQ1 _ (ht.ext ac)) ?_;rintro tl fg lg rfl;have en := be lg.2 en;have ac := xt ac lg.2;refine go ?_;refine al inf1032 (fun tm lh nj => ?_);have en := be lh.2 en;have ac := xt ac lh.2;refine SA nj (fun tn kq fe => ?_);have en := pb kq en;have ac := plw kq ac;have tp := psz kq;refine go ?_;refine sui ?_;refine clb en1009 (hc := lOf_ok (by unfold In64; omega) (by unfold In64; omega) om (ht.ext ac)) (hk := ?_)
 rintro tq tu kr rfl;have en := be kr.2 en;have fe := be kr.2 fe;have ac := xt ac kr.2;refine go ?_;refine cl en1015 (hQ2 _ (ht.ext ac)) ?_;rintro tv gm ks rfl;have en := be ks.2 en;have fe := be ks.2 fe;have ac := xt ac ks.2;refine go ?_;refine al inf1032 (fun tw kt nk => ?_);have en := be kt.2 en;have fe := be kt.2 fe;have ac := xt ac kt.2;refine SA nk (fun tz jp gj => ?_);have en := pb jp en;have fe := pb jp fe;have ac := plw jp ac;have t6 := psz jp;refine go ?_;refine l_op (k_loadA (cs := [S ((qR f (tenI (pl))).1), S ((qR f (tenI (pl))).2), S ((qR c (tenI (pl))).1), S ((qR c (tenI (pl))).2)]) (b := fg.heap.size) (o := 0) U1032 rfl sz1032 rfl (Blk.cells fe (i := 0) rfl) ?_);refine go ?_;refine cl en1016 (grid_ok hp qf qc hfc hc1 (ht.ext ac)) ?_;rintro t7 t8 jq rfl;have en := be jq.2 en;have fe := be jq.2 fe;have gj := be jq.2 gj;have ac := xt ac jq.2;refine go ?_;refine cl en1017 (hN1 _ (ht.ext ac)) ?_;rintro ua gk jr rfl;have en := be jr.2 en;have fe := be jr.2 fe;have gj := be jr.2 gj;have ac := xt ac jr.2;refine go ?_;refine al inf1032 (fun ub js nl => ?_);have en := be js.2 en;have fe := be js.2 fe;have gj := be js.2 gj;have ac := xt ac js.2;refine SA nl (fun ud i6 gu => ?_);have en := pb i6 en;have fe := pb i6 fe;have gj := pb i6 gj;have ac := plw i6 ac
 have ue := psz i6;refine go ?_;refine cl en1017 (hN2 _ (ht.ext ac)) ?_;rintro uf gl i7 rfl;have en := be i7.2 en;have fe := be i7.2 fe;have gj := be i7.2 gj;have gu := be i7.2 gu;have ac := xt ac i7.2;refine go ?_;refine al inf1032 (fun ug i8 nn => ?_);have en := be i8.2 en;have fe := be i8.2 fe;have gj := be i8.2 gj;have gu := be i8.2 gu;have ac := xt ac i8.2;refine SA nn (fun ku ij nu => ?_);have en := pb ij en;have fe := pb ij fe;have gj := pb ij gj;have gu := pb ij gu;have ac := plw ij ac;have uh := psz ij;refine go ?_;have gv := Ext.drew ku;refine c_st2 hmix 9 (fun e0 ls e W => ∃ e8 : Nat, (∀ t, inB [15, 63, 64, 65, 66, 67, 68, 69] t = false → e t = e0 t) ∧ (Ext w W) ∧ (ku.heap.size ≤ W.heap.size) ∧ (ls 0 = true → e 64 = .agg #[S ((qR 0 1).1), S ((qR 0 1).2)]) ∧ (ls 1 = true → e 65 = .agg #[S ((qR 0 1).1), S ((qR 0 1).2), S ((qR 0 1).1), S ((qR 0 1).2)]) ∧ (ls 2 = true → e 66 = .agg #[S ((qR g (tenI (pl))).1), S ((qR g (tenI (pl))).2), S ((qR k (tenI (pl))).1), S ((qR k (tenI (pl))).2)]) ∧ (ls 3 = true → e 67 = .tuple #[.agg #[S ((qR (0 * tenI pl - k * 1) (1 * tenI pl)).1), S ((qR (0 * tenI pl - k * 1) (1 * tenI pl)).2), S ((qR (0 * tenI pl - g * 1) (1 * tenI pl)).1), S ((qR (0 * tenI pl - g * 1) (1 * tenI pl)).2)], .int .i64 (0)]) ∧ (ls 4 = true → e 63 = .tuple #[.agg #[S ((qR (0 * tenI pl - k * 1) (1 * tenI pl)).1), S ((qR (0 * tenI pl - k * 1) (1 * tenI pl)).2), S ((qR (0 * tenI pl - g * 1) (1 * tenI pl)).1), S ((qR (0 * tenI pl - g * 1) (1 * tenI pl)).2)], .int .i64 (0)]) ∧ (ls 5 = true → e 68 = .agg #[S ((qR (0 * tenI pl - k * 1) (1 * tenI pl)).1), S ((qR (0 * tenI pl - k * 1) (1 * tenI pl)).2), S ((qR (0 * tenI pl - g * 1) (1 * tenI pl)).1), S ((qR (0 * tenI pl - g * 1) (1 * tenI pl)).2)]) ∧ (ls 6 = true → e 69 = .int .i64 (0)) ∧ (ls 7 = true → e 15 = .pointer (some ⟨e8, 0, none⟩)) ∧ (ls 7 = true → ku.heap.size ≤ e8) ∧ (Blk W (gi.heap.size) 25 #[S ((qR M 1000).1), S ((qR M 1000).2)]) ∧ (Blk W (fg.heap.size) 32 #[S ((qR f (tenI (pl))).1), S ((qR f (tenI (pl))).2), S ((qR c (tenI (pl))).1), S ((qR c (tenI (pl))).2)]) ∧ (Blk W (gm.heap.size) 32 #[S ((qR g (tenI (pl))).1), S ((qR g (tenI (pl))).2), S ((qR k (tenI (pl))).1), S ((qR k (tenI (pl))).2)]) ∧ (Blk W (gk.heap.size) 32 #[S ((qR u (tenI 10)).1), S ((qR u (tenI 10)).2), S ((qR v (tenI 10)).1), S ((qR v (tenI 10)).2)]) ∧ (Blk W (gl.heap.size) 32 #[S ((qR s (tenI 10)).1), S ((qR s (tenI 10)).2), S ((qR t (tenI 10)).1), S ((qR t (tenI 10)).2)]) ∧ (ls 7 = true → ls 8 = false → Blk W (e8) 32 #[S ([]), S ([]), S ([]), S ([])]) ∧ (ls 8 = true → Blk W (e8) 32 #[S ((qR (0 * tenI pl - k * 1) (1 * tenI pl)).1), S ((qR (0 * tenI pl - k * 1) (1 * tenI pl)).2), S ((qR (0 * tenI pl - g * 1) (1 * tenI pl)).1), S ((qR (0 * tenI pl - g * 1) (1 * tenI pl)).2)])) ⟨0, (fun _ _ => rfl), (xt ac gv), (bz gv), (ff rfl), (ff rfl), (ff rfl), (ff rfl), (ff rfl), (ff rfl), (ff rfl), (ff rfl), (ff rfl), (be gv en), (be gv fe), (be gv gj), (be gv gu), (be gv nu), (fun h _ => ff rfl h), (fun h  => ff rfl h)⟩ (by kernel_rfl) (by kernel_rfl) ?_ ?_
 refine ⟨fun ui ja ik nw il li uj => ?_, ?_⟩;obtain ⟨e8, nz, ac, zst, f6, f7, f8, gc, fh, gd, gg, fj, fk, fm, fo, fp, fq, fw, gh, gp⟩ := nw;obtain ⟨ui, rfl⟩ := ovE nz;have n3 : ik 1 = false := (unl il (i := 0) (j := 1) rfl li);have n4 : ik 8 = false := (unl il (i := 0) (j := 8) rfl li);have n6 : ik 3 = false := (unl il (i := 1) (j := 3) rfl n3);have lj : ik 4 = false := (unl il (i := 3) (j := 4) rfl n6);have uk : ik 5 = false := (unl il (i := 4) (j := 5) rfl lj);have ul : ik 6 = false := (unl il (i := 4) (j := 6) rfl lj);have um := bz ac;have jt : Blk ja (gi.heap.size) 25 #[S ((qR M 1000).1), S ((qR M 1000).2)] := fm;have un := bt jt;have ju : Blk ja (fg.heap.size) 32 #[S ((qR f (tenI (pl))).1), S ((qR f (tenI (pl))).2), S ((qR c (tenI (pl))).1), S ((qR c (tenI (pl))).2)] := fo;have uo := bt ju;have jv : Blk ja (gm.heap.size) 32 #[S ((qR g (tenI (pl))).1), S ((qR g (tenI (pl))).2), S ((qR k (tenI (pl))).1), S ((qR k (tenI (pl))).2)] := fp;have uq := bt jv;have jw : Blk ja (gk.heap.size) 32 #[S ((qR u (tenI 10)).1), S ((qR u (tenI 10)).2), S ((qR v (tenI 10)).1), S ((qR v (tenI 10)).2)] := fq;have ut := bt jw;have jx : Blk ja (gl.heap.size) 32 #[S ((qR s (tenI 10)).1), S ((qR s (tenI 10)).2), S ((qR t (tenI 10)).1), S ((qR t (tenI 10)).2)] := fw;have uu := bt jx;refine clb en1009 (hc := lOf_ok (by unfold In64; omega) (by unfold In64; omega) om (ht.ext ac)) (hk := ?_);rintro uv uw gw rfl;have jt := be gw.2 jt;have ju := be gw.2 ju
 have jv := be gw.2 jv;have jw := be gw.2 jw;have jx := be gw.2 jx;have ac := xt ac gw.2;refine go ?_;exact ⟨rfl, _, (act_put _ _ _ _ _).symm, e8, (same_upd rfl nz), ac, om, (fun _ => rfl), f7, f8, gc, fh, gd, gg, fj, fk, (jt), (ju), (jv), (jw), (jx), (fun n7 n8 => (be gw.2 (gh n7 n8))), (fun n9 => ff n4 n9)⟩;refine ⟨fun oa jb im oc jc lk oe => ?_, ?_⟩;obtain ⟨e8, og, ac, zst, f6, f7, f8, gc, fh, gd, gg, fj, fk, fm, fo, fp, fq, fw, gh, gp⟩ := oc;obtain ⟨oa, rfl⟩ := ovE og;have oh : im 0 = true := (oe 0 rfl);have oi : im 3 = false := (unl jc (i := 1) (j := 3) rfl lk);have ol : im 8 = false := (unl jc (i := 1) (j := 8) rfl lk);have ll : im 4 = false := (unl jc (i := 3) (j := 4) rfl oi);have ux : im 5 = false := (unl jc (i := 4) (j := 5) rfl ll);have uy : im 6 = false := (unl jc (i := 4) (j := 6) rfl ll);have ot : oa 64 = .agg #[S ((qR 0 1).1), S ((qR 0 1).2)] := f6 oh;have uz := bz ac;have jy : Blk jb (gi.heap.size) 25 #[S ((qR M 1000).1), S ((qR M 1000).2)] := fm;have u0 := bt jy;have jz : Blk jb (fg.heap.size) 32 #[S ((qR f (tenI (pl))).1), S ((qR f (tenI (pl))).2), S ((qR c (tenI (pl))).1), S ((qR c (tenI (pl))).2)] := fo;have u3 := bt jz;have j2 : Blk jb (gm.heap.size) 32 #[S ((qR g (tenI (pl))).1), S ((qR g (tenI (pl))).2), S ((qR k (tenI (pl))).1), S ((qR k (tenI (pl))).2)] := fp;have u4 := bt j2;have j3 : Blk jb (gk.heap.size) 32 #[S ((qR u (tenI 10)).1), S ((qR u (tenI 10)).2), S ((qR v (tenI 10)).1), S ((qR v (tenI 10)).2)] := fq
 have u5 := bt j3;have j4 : Blk jb (gl.heap.size) 32 #[S ((qR s (tenI 10)).1), S ((qR s (tenI 10)).2), S ((qR t (tenI 10)).1), S ((qR t (tenI 10)).2)] := fw;have u6 := bt j4;refine cl en1019 (point_ok rfl q9l0 (ht.ext ac)) ?_ (cons_eq ot rfl);rintro u7 vd gy rfl;have jy := be gy.2 jy;have jz := be gy.2 jz;have j2 := be gy.2 j2;have j3 := be gy.2 j3;have j4 := be gy.2 j4;have ac := xt ac gy.2;refine go ?_;exact ⟨rfl, _, (act_put _ _ _ _ _).symm, e8, (same_upd rfl og), ac, om, f6, (fun _ => rfl), f8, gc, fh, gd, gg, fj, fk, (jy), (jz), (j2), (j3), (j4), (fun ou ow => (be gy.2 (gh ou ow))), (fun ox => ff ol ox)⟩;refine ⟨fun ve jd je oy jf ln vg => ?_, ?_⟩;obtain ⟨e8, lu, ac, zst, f6, f7, f8, gc, fh, gd, gg, fj, fk, fm, fo, fp, fq, fw, gh, gp⟩ := oy;obtain ⟨ve, rfl⟩ := ovE lu;have oz : je 3 = false := (unl jf (i := 2) (j := 3) rfl ln);have o0 : je 8 = false := (unl jf (i := 2) (j := 8) rfl ln);have lv : je 4 = false := (unl jf (i := 3) (j := 4) rfl oz);have vh : je 5 = false := (unl jf (i := 4) (j := 5) rfl lv);have vi : je 6 = false := (unl jf (i := 4) (j := 6) rfl lv);have vj := bz ac;have lw : Blk jd (gi.heap.size) 25 #[S ((qR M 1000).1), S ((qR M 1000).2)] := fm;have vk := bt lw;have lx : Blk jd (fg.heap.size) 32 #[S ((qR f (tenI (pl))).1), S ((qR f (tenI (pl))).2), S ((qR c (tenI (pl))).1), S ((qR c (tenI (pl))).2)] := fo;have vl := bt lx;have kv : Blk jd (gm.heap.size) 32 #[S ((qR g (tenI (pl))).1), S ((qR g (tenI (pl))).2), S ((qR k (tenI (pl))).1), S ((qR k (tenI (pl))).2)] := fp
 have vm := bt kv;have lz : Blk jd (gk.heap.size) 32 #[S ((qR u (tenI 10)).1), S ((qR u (tenI 10)).2), S ((qR v (tenI 10)).1), S ((qR v (tenI 10)).2)] := fq;have vn := bt lz;have l0 : Blk jd (gl.heap.size) 32 #[S ((qR s (tenI 10)).1), S ((qR s (tenI 10)).2), S ((qR t (tenI 10)).1), S ((qR t (tenI 10)).2)] := fw;have vo := bt l0;refine l_op (k_loadA (cs := [S ((qR g (tenI (pl))).1), S ((qR g (tenI (pl))).2), S ((qR k (tenI (pl))).1), S ((qR k (tenI (pl))).2)]) (b := gm.heap.size) (o := 0) U1032 rfl sz1032 rfl (Blk.cells kv (i := 0) rfl) ?_);refine go ?_;exact ⟨rfl, _, (act_put _ _ _ _ _).symm, e8, (same_upd rfl lu), ac, om, f6, f7, (fun _ => rfl), gc, fh, gd, gg, fj, fk, (lw), (lx), (kv), (lz), (l0), (fun o5 o6 => gh o5 o6), (fun o7 => ff o0 o7)⟩;refine ⟨fun l5 jg gz o8 jh l6 l7 => ?_, ?_⟩;obtain ⟨e8, o9, ac, zst, f6, f7, f8, gc, fh, gd, gg, fj, fk, fm, fo, fp, fq, fw, gh, gp⟩ := o8;obtain ⟨l5, rfl⟩ := ovE o9;have l8 : gz 1 = true := (l7 1 rfl);have vq : gz 0 = true := (jh 1 0 rfl l8);have pc : gz 2 = true := (l7 2 rfl);have l9 : gz 4 = false := (unl jh (i := 3) (j := 4) rfl l6);have pf : gz 8 = false := (unl jh (i := 3) (j := 8) rfl l6);have vr : gz 5 = false := (unl jh (i := 4) (j := 5) rfl l9);have vt : gz 6 = false := (unl jh (i := 4) (j := 6) rfl l9);have pg : l5 65 = .agg #[S ((qR 0 1).1), S ((qR 0 1).2), S ((qR 0 1).1), S ((qR 0 1).2)] := f7 l8;have pj : l5 66 = .agg #[S ((qR g (tenI (pl))).1), S ((qR g (tenI (pl))).2), S ((qR k (tenI (pl))).1), S ((qR k (tenI (pl))).2)] := f8 pc
 have vu := bz ac;have j5 : Blk jg (gi.heap.size) 25 #[S ((qR M 1000).1), S ((qR M 1000).2)] := fm;have vw := bt j5;have j6 : Blk jg (fg.heap.size) 32 #[S ((qR f (tenI (pl))).1), S ((qR f (tenI (pl))).2), S ((qR c (tenI (pl))).1), S ((qR c (tenI (pl))).2)] := fo;have vx := bt j6;have j7 : Blk jg (gm.heap.size) 32 #[S ((qR g (tenI (pl))).1), S ((qR g (tenI (pl))).2), S ((qR k (tenI (pl))).1), S ((qR k (tenI (pl))).2)] := fp;have vy := bt j7;have j8 : Blk jg (gk.heap.size) 32 #[S ((qR u (tenI 10)).1), S ((qR u (tenI 10)).2), S ((qR v (tenI 10)).1), S ((qR v (tenI 10)).2)] := fq;have vz := bt j8;have j9 : Blk jg (gl.heap.size) 32 #[S ((qR s (tenI 10)).1), S ((qR s (tenI 10)).2), S ((qR t (tenI 10)).1), S ((qR t (tenI 10)).2)] := fw;have v8 := bt j9;refine cl en1018 (encSub_ok (x := (qR 0 1, qR 0 1)) (y := (qR g (tenI pl), qR k (tenI pl))) (ivr_point rfl q9l0) ⟨g, tenI pl, k, tenI pl, rfl, rfl, qg, qk, Int.mul_le_mul_of_nonneg_right hgk (Int.le_of_lt (ten_pos pl))⟩ rfl rfl q9l0 q9l0 rfl rfl qg qk (ht.ext ac)) ?_ (cons_eq pg (cons_eq pj rfl));rintro wc wd g6 rfl;have j5 := be g6.2 j5;have j6 := be g6.2 j6;have j7 := be g6.2 j7;have j8 := be g6.2 j8;have j9 := be g6.2 j9;have ac := xt ac g6.2;refine go ?_;exact ⟨rfl, _, (act_put _ _ _ _ _).symm, e8, (same_upd rfl o9), ac, om, f6, f7, f8, (fun _ => rfl), fh, gd, gg, fj, fk, (j5), (j6), (j7), (j8), (j9), (fun pm pn => (be g6.2 (gh pm pn))), (fun po => ff pf po)⟩
 refine ⟨fun pp ji g7 pq io kw pr => ?_, ?_⟩;obtain ⟨e8, pt, ac, zst, f6, f7, f8, gc, fh, gd, gg, fj, fk, fm, fo, fp, fq, fw, gh, gp⟩ := pq;obtain ⟨pp, rfl⟩ := ovE pt;have ky : g7 3 = true := (pr 3 rfl);have pu : g7 1 = true := (io 3 1 rfl ky);have we : g7 0 = true := (io 1 0 rfl pu);have wg : g7 2 = true := (io 3 2 rfl ky);have wh : g7 5 = false := (unl io (i := 4) (j := 5) rfl kw);have wi : g7 6 = false := (unl io (i := 4) (j := 6) rfl kw);have pw : g7 8 = false := (unl io (i := 4) (j := 8) rfl kw);have px : pp 67 = .tuple #[.agg #[S ((qR (0 * tenI pl - k * 1) (1 * tenI pl)).1), S ((qR (0 * tenI pl - k * 1) (1 * tenI pl)).2), S ((qR (0 * tenI pl - g * 1) (1 * tenI pl)).1), S ((qR (0 * tenI pl - g * 1) (1 * tenI pl)).2)], .int .i64 (0)] := gc ky;have wj := bz ac;have ma : Blk ji (gi.heap.size) 25 #[S ((qR M 1000).1), S ((qR M 1000).2)] := fm;have wk := bt ma;have mb : Blk ji (fg.heap.size) 32 #[S ((qR f (tenI (pl))).1), S ((qR f (tenI (pl))).2), S ((qR c (tenI (pl))).1), S ((qR c (tenI (pl))).2)] := fo;have wl := bt mb;have mc : Blk ji (gm.heap.size) 32 #[S ((qR g (tenI (pl))).1), S ((qR g (tenI (pl))).2), S ((qR k (tenI (pl))).1), S ((qR k (tenI (pl))).2)] := fp;have wm := bt mc;have me : Blk ji (gk.heap.size) 32 #[S ((qR u (tenI 10)).1), S ((qR u (tenI 10)).2), S ((qR v (tenI 10)).1), S ((qR v (tenI 10)).2)] := fq;have wn := bt me;have mf : Blk ji (gl.heap.size) 32 #[S ((qR s (tenI 10)).1), S ((qR s (tenI 10)).2), S ((qR t (tenI 10)).1), S ((qR t (tenI 10)).2)] := fw
 have wo := bt mf;refine go ?_;exact ⟨rfl, _, (act_put _ _ _ _ _).symm, e8, (same_upd rfl pt), ac, om, f6, f7, f8, gc, (fun _ => rfl), gd, gg, fj, fk, (ma), (mb), (mc), (me), (mf), (fun py p0 => gh py p0), (fun p7 => ff pw p7)⟩;refine ⟨fun p9 jj ip qe jk qh qj => ?_, ?_⟩;obtain ⟨e8, ql, ac, zst, f6, f7, f8, gc, fh, gd, gg, fj, fk, fm, fo, fp, fq, fw, gh, gp⟩ := qe;obtain ⟨p9, rfl⟩ := ovE ql;have mg : ip 4 = true := (qj 4 rfl);have mh : ip 3 = true := (jk 4 3 rfl mg);have qn : ip 1 = true := (jk 3 1 rfl mh);have wp : ip 0 = true := (jk 1 0 rfl qn);have ws : ip 2 = true := (jk 3 2 rfl mh);have qo : ip 8 = false := (unl jk (i := 5) (j := 8) rfl qh);have qq : p9 63 = .tuple #[.agg #[S ((qR (0 * tenI pl - k * 1) (1 * tenI pl)).1), S ((qR (0 * tenI pl - k * 1) (1 * tenI pl)).2), S ((qR (0 * tenI pl - g * 1) (1 * tenI pl)).1), S ((qR (0 * tenI pl - g * 1) (1 * tenI pl)).2)], .int .i64 (0)] := fh mg;have wt := bz ac;have mi : Blk jj (gi.heap.size) 25 #[S ((qR M 1000).1), S ((qR M 1000).2)] := fm;have wu := bt mi;have mj : Blk jj (fg.heap.size) 32 #[S ((qR f (tenI (pl))).1), S ((qR f (tenI (pl))).2), S ((qR c (tenI (pl))).1), S ((qR c (tenI (pl))).2)] := fo;have wv := bt mj;have ml : Blk jj (gm.heap.size) 32 #[S ((qR g (tenI (pl))).1), S ((qR g (tenI (pl))).2), S ((qR k (tenI (pl))).1), S ((qR k (tenI (pl))).2)] := fp;have ww := bt ml;have mm : Blk jj (gk.heap.size) 32 #[S ((qR u (tenI 10)).1), S ((qR u (tenI 10)).2), S ((qR v (tenI 10)).1), S ((qR v (tenI 10)).2)] := fq
 have wx := bt mm;have mo : Blk jj (gl.heap.size) 32 #[S ((qR s (tenI 10)).1), S ((qR s (tenI 10)).2), S ((qR t (tenI 10)).1), S ((qR t (tenI 10)).2)] := fw;have wy := bt mo;refine go ?_;exact ⟨rfl, _, (act_put _ _ _ _ _).symm, e8, (same_upd rfl ql), ac, om, f6, f7, f8, gc, fh, (fun _ => rfl), gg, fj, fk, (mi), (mj), (ml), (mm), (mo), (fun qr qy => gh qr qy), (fun q5 => ff qo q5)⟩;refine ⟨fun q6 jl jm q7 ka xa q8 => ?_, ?_⟩;obtain ⟨e8, q9, ac, zst, f6, f7, f8, gc, fh, gd, gg, fj, fk, fm, fo, fp, fq, fw, gh, gp⟩ := q7;obtain ⟨q6, rfl⟩ := ovE q9;have mp : jm 4 = true := (q8 4 rfl);have mu : jm 3 = true := (ka 4 3 rfl mp);have ra : jm 1 = true := (ka 3 1 rfl mu);have xb : jm 0 = true := (ka 1 0 rfl ra);have xc : jm 2 = true := (ka 3 2 rfl mu);have rb : q6 63 = .tuple #[.agg #[S ((qR (0 * tenI pl - k * 1) (1 * tenI pl)).1), S ((qR (0 * tenI pl - k * 1) (1 * tenI pl)).2), S ((qR (0 * tenI pl - g * 1) (1 * tenI pl)).1), S ((qR (0 * tenI pl - g * 1) (1 * tenI pl)).2)], .int .i64 (0)] := fh mp;have xd := bz ac;have mv : Blk jl (gi.heap.size) 25 #[S ((qR M 1000).1), S ((qR M 1000).2)] := fm;have xe := bt mv;have mw : Blk jl (fg.heap.size) 32 #[S ((qR f (tenI (pl))).1), S ((qR f (tenI (pl))).2), S ((qR c (tenI (pl))).1), S ((qR c (tenI (pl))).2)] := fo;have xf := bt mw;have mx : Blk jl (gm.heap.size) 32 #[S ((qR g (tenI (pl))).1), S ((qR g (tenI (pl))).2), S ((qR k (tenI (pl))).1), S ((qR k (tenI (pl))).2)] := fp;have xg := bt mx;have my : Blk jl (gk.heap.size) 32 #[S ((qR u (tenI 10)).1), S ((qR u (tenI 10)).2), S ((qR v (tenI 10)).1), S ((qR v (tenI 10)).2)] := fq
 have xh := bt my;have mz : Blk jl (gl.heap.size) 32 #[S ((qR s (tenI 10)).1), S ((qR s (tenI 10)).2), S ((qR t (tenI 10)).1), S ((qR t (tenI 10)).2)] := fw;have xi := bt mz;refine go ?_;exact ⟨rfl, _, (act_put _ _ _ _ _).symm, e8, (same_upd rfl q9), ac, om, f6, f7, f8, gc, fh, gd, (fun _ => rfl), fj, fk, (mv), (mw), (mx), (my), (mz), (fun rd re => gh rd re), (fun rh => gp rh)⟩;refine ⟨fun xj iq ri rj rk rm xk => ?_, ?_⟩;obtain ⟨e8, rp, ac, zst, f6, f7, f8, gc, fh, gd, gg, fj, fk, fm, fo, fp, fq, fw, gh, gp⟩ := rj;obtain ⟨xj, rfl⟩ := ovE rp;have rq : ri 8 = false := (unl rk (i := 7) (j := 8) rfl rm);have xl := bz ac;have kb : Blk iq (gi.heap.size) 25 #[S ((qR M 1000).1), S ((qR M 1000).2)] := fm;have xm := bt kb;have ke : Blk iq (fg.heap.size) 32 #[S ((qR f (tenI (pl))).1), S ((qR f (tenI (pl))).2), S ((qR c (tenI (pl))).1), S ((qR c (tenI (pl))).2)] := fo;have xn := bt ke;have kf : Blk iq (gm.heap.size) 32 #[S ((qR g (tenI (pl))).1), S ((qR g (tenI (pl))).2), S ((qR k (tenI (pl))).1), S ((qR k (tenI (pl))).2)] := fp;have xo := bt kf;have kg : Blk iq (gk.heap.size) 32 #[S ((qR u (tenI 10)).1), S ((qR u (tenI 10)).2), S ((qR v (tenI 10)).1), S ((qR v (tenI 10)).2)] := fq;have xp := bt kg;have kh : Blk iq (gl.heap.size) 32 #[S ((qR s (tenI 10)).1), S ((qR s (tenI 10)).2), S ((qR t (tenI 10)).1), S ((qR t (tenI 10)).2)] := fw;have xq := bt kh;refine al inf1032 (fun xr ir rr => ?_);have kb := be ir.2 kb;have ke := be ir.2 ke
 have kf := be ir.2 kf;have kg := be ir.2 kg;have kh := be ir.2 kh;have ac := xt ac ir.2;refine go ?_;exact ⟨rfl, _, (act_put _ _ _ _ _).symm, iq.heap.size, (same_upd rfl rp), ac, om, f6, f7, f8, gc, fh, gd, gg, (fun _ => rfl), (fun _ => om), (kb), (ke), (kf), (kg), (kh), (fun xu xv => rr), (fun rt => ff rq rt)⟩;refine ⟨fun m0 iu g8 ru jn ry m5 => ?_, ?_⟩;obtain ⟨e8, rz, ac, zst, f6, f7, f8, gc, fh, gd, gg, fj, fk, fm, fo, fp, fq, fw, gh, gp⟩ := ru;obtain ⟨m0, rfl⟩ := ovE rz;have kz : g8 7 = true := (m5 7 rfl);have m6 : g8 5 = true := (m5 5 rfl);have r6 : g8 4 = true := (jn 5 4 rfl m6);have m7 : g8 3 = true := (jn 4 3 rfl r6);have r7 : g8 1 = true := (jn 3 1 rfl m7);have xw : g8 0 = true := (jn 1 0 rfl r7);have xx : g8 2 = true := (jn 3 2 rfl m7);have r8 : m0 68 = .agg #[S ((qR (0 * tenI pl - k * 1) (1 * tenI pl)).1), S ((qR (0 * tenI pl - k * 1) (1 * tenI pl)).2), S ((qR (0 * tenI pl - g * 1) (1 * tenI pl)).1), S ((qR (0 * tenI pl - g * 1) (1 * tenI pl)).2)] := gd m6;have r9 : m0 15 = .pointer (some ⟨e8, 0, none⟩) := fj kz;have xy := bz ac;have sb := fk kz;have ki : Blk iu (gi.heap.size) 25 #[S ((qR M 1000).1), S ((qR M 1000).2)] := fm;have xz := bt ki;have kj : Blk iu (fg.heap.size) 32 #[S ((qR f (tenI (pl))).1), S ((qR f (tenI (pl))).2), S ((qR c (tenI (pl))).1), S ((qR c (tenI (pl))).2)] := fo;have x4 := bt kj;have km : Blk iu (gm.heap.size) 32 #[S ((qR g (tenI (pl))).1), S ((qR g (tenI (pl))).2), S ((qR k (tenI (pl))).1), S ((qR k (tenI (pl))).2)] := fp
 have x5 := bt km;have kn : Blk iu (gk.heap.size) 32 #[S ((qR u (tenI 10)).1), S ((qR u (tenI 10)).2), S ((qR v (tenI 10)).1), S ((qR v (tenI 10)).2)] := fq;have x6 := bt kn;have ko : Blk iu (gl.heap.size) 32 #[S ((qR s (tenI 10)).1), S ((qR s (tenI 10)).2), S ((qR t (tenI 10)).1), S ((qR t (tenI 10)).2)] := fw;have x7 := bt ko;have m8 : Blk iu (e8) 32 #[S ([]), S ([]), S ([]), S ([])] := gh kz ry;have x8 := bt m8;refine SA m8 (fun x9 ia sc => ?_);have ki := pb ia ki;have kj := pb ia kj;have km := pb ia km;have kn := pb ia kn;have ko := pb ia ko;have ac := plw ia ac;have ya := psz ia;refine go ?_;exact ⟨rfl, undef, rfl, e8, rz, ac, om, f6, f7, f8, gc, fh, gd, gg, fj, fk, (ki), (kj), (km), (kn), (ko), (fun yb sd => tf rfl sd), (fun yc => sc)⟩;exact trivial;intro gq iv yd kp se;obtain ⟨e8, ic, ac, zst, f6, f7, f8, gc, fh, gd, gg, fj, fk, fm, fo, fp, fq, fw, gh, gp⟩ := se;obtain ⟨gq, rfl⟩ := ovE ic;have ye := bz ac;have sb := fk (kp 7 rfl);have ie : Blk iv (gi.heap.size) 25 #[S ((qR M 1000).1), S ((qR M 1000).2)] := fm;have yf := bt ie;have iw : Blk iv (fg.heap.size) 32 #[S ((qR f (tenI (pl))).1), S ((qR f (tenI (pl))).2), S ((qR c (tenI (pl))).1), S ((qR c (tenI (pl))).2)] := fo;have yg := bt iw;have jo : Blk iv (gm.heap.size) 32 #[S ((qR g (tenI (pl))).1), S ((qR g (tenI (pl))).2), S ((qR k (tenI (pl))).1), S ((qR k (tenI (pl))).2)] := fp
 have yh := bt jo;have ix : Blk iv (gk.heap.size) 32 #[S ((qR u (tenI 10)).1), S ((qR u (tenI 10)).2), S ((qR v (tenI 10)).1), S ((qR v (tenI 10)).2)] := fq;have yi := bt ix;have iy : Blk iv (gl.heap.size) 32 #[S ((qR s (tenI 10)).1), S ((qR s (tenI 10)).2), S ((qR t (tenI 10)).1), S ((qR t (tenI 10)).2)] := fw;have yj := bt iy;have iz : Blk iv (e8) 32 #[S ((qR (0 * tenI pl - k * 1) (1 * tenI pl)).1), S ((qR (0 * tenI pl - k * 1) (1 * tenI pl)).2), S ((qR (0 * tenI pl - g * 1) (1 * tenI pl)).1), S ((qR (0 * tenI pl - g * 1) (1 * tenI pl)).2)] := gp (kp 8 rfl);have yl := bt iz;have sh : gq 69 = .int .i64 (0) := (gg (kp 6 rfl));refine go ?_;refine clb en49 (hc := qCmpX (q9_cell (pl := 10) u9 dc) qm (ht.ext ac)) (hk := ?_);rintro ym yn ig rfl;have ie := be ig.2 ie;have iw := be ig.2 iw;have iy := be ig.2 iy;have iz := be ig.2 iz;have ac := xt ac ig.2;refine go ?_;refine l_want (s := 90) rfl (congrArg Value.bool (decide_eq_true (cmpI_nonpos.2 hu))) ?_;refine go ?_;refine l_want (s := 90) rfl (congrArg Value.bool (decide_eq_true (cmpI_nonpos.2 hu))) ?_;refine go ?_;refine l_want (s := 90) rfl (congrArg Value.bool (decide_eq_true (cmpI_nonpos.2 hu))) ?_;refine go ?_;refine l_want (s := 90) rfl (congrArg Value.bool (decide_eq_true (cmpI_nonpos.2 hu))) ?_;refine clb en49 (hc := qCmpX (q9_cell (pl := 10) t9 dc) qm (ht.ext ac)) (hk := ?_);rintro yo yp ii rfl;have iw := be ii.2 iw;have iz := be ii.2 iz;have ac := xt ac ii.2
 refine l_want (s := 90) rfl (congrArg Value.bool (decide_eq_true (cmpI_nonpos.2 hu))) ?_;refine go ?_;refine l_op (k_pick (t := true) (v := .bool (decide (0 ≤ (cmpI (t * 1000) (M * (tenI 10)))))) (congrArg Value.bool (decide_eq_true (cmpI_nonpos.2 hu))) rfl ?_);refine go ?_;refine l_want (s := 97) rfl (congrArg Value.bool (decide_eq_true (cmpI_swap0.2 ht2))) ?_;have sr : gq 15 = .pointer (some ⟨e8, 0, none⟩) := (fj (kp 7 rfl));refine l_op (k_loadA (cs := [S ((qR (0 * tenI pl - k * 1) (1 * tenI pl)).1), S ((qR (0 * tenI pl - k * 1) (1 * tenI pl)).2), S ((qR (0 * tenI pl - g * 1) (1 * tenI pl)).1), S ((qR (0 * tenI pl - g * 1) (1 * tenI pl)).2)]) (b := e8) (o := 0) U1032 rfl sz1032 sr (Blk.cells iz (i := 0) rfl) ?_);refine l_want (s := 97) rfl (congrArg Value.bool (decide_eq_true (cmpI_swap0.2 ht2))) ?_;refine l_op (k_loadA (cs := [S ((qR f (tenI (pl))).1), S ((qR f (tenI (pl))).2), S ((qR c (tenI (pl))).1), S ((qR c (tenI (pl))).2)]) (b := fg.heap.size) (o := 0) U1032 rfl sz1032 rfl (Blk.cells iw (i := 0) rfl) ?_);refine l_want (s := 97) rfl (congrArg Value.bool (decide_eq_true (cmpI_swap0.2 ht2))) ?_;refine l_op (k_eqlI (a := (qR (0 * tenI pl - k * 1) (1 * tenI pl), qR (0 * tenI pl - g * 1) (1 * tenI pl))) (b := (qR f (tenI (pl)), qR c (tenI (pl)))) (q := true) rfl rfl (decide_eq_true (hturn)) ?_);refine l_op (k_pick (t := true) (v := .bool (true)) (congrArg Value.bool (decide_eq_true (cmpI_swap0.2 ht2))) rfl ?_);refine go ?_;exact f_ret1 (t := 4) (v := .bool (true)) rfl ac rfl rfl
end Go.Proofs.YteojhdahhaodoaaGreatDoor
namespace Go.Proofs.YteojhdahhaodoaaGreatDoor
open Go Go.Eng Go.RowKit
def fz (v : Nat) (k : Nat → Bool) : Bool := Nat.rec (motive := fun _ => Bool) (k 0) (fun m _ => k (Nat.succ m)) v
theorem fz_eq (v : Nat) (k : Nat → Bool) : fz v k = k v := by cases v <;> rfl
def bdK (a b : Nat) : Bool := and (Nat.ble a 99999999999999999999999999999999999999999999999999999999999999999999999999999999999999999999999) (Nat.ble b 99999999999999999999999999999999999999999999999999999999999999999999999999999999999999999999999)
theorem bdK_ok {a b : Nat} (h : bdK a b = true) : bdB (a, b) = true := by
  unfold bdK at h
  simp only [Bool.and_eq_true, Nat.ble_eq] at h
  unfold bdB
  simp only [Bool.and_eq_true, decide_eq_true_eq]
  omega
theorem cond_t {c x y : Bool} : cond c x y = true → (c = true ∧ x = true) ∨ (c = false ∧ y = true) := by cases c <;> simp
theorem upn_eq {a b : Nat} (hb : 0 < b) : upn a b = (a + (b - 1)) / b := by
  unfold upn
  have h1 := Nat.div_add_mod a b
  have h2 := Nat.mod_lt a hb
  split
  · rename_i h
    rw [h, Nat.add_zero] at h1
    symm
    rw [Nat.div_eq_iff hb]
    rw [Nat.mul_comm]
    omega
  · rename_i h
    symm
    rw [Nat.div_eq_iff hb, Nat.add_mul, Nat.mul_comm (a / b) b]
    omega
def sumK (g h : Nat → Nat → Nat) (K : Nat → Nat → Bool) (f : Nat) : Nat → Nat → Nat → Nat → Nat → Nat → Bool :=
  Nat.rec (motive := fun _ => Nat → Nat → Nat → Nat → Nat → Nat → Bool) (fun _ _ _ _ _ _ => false)
    (fun _ ih n t1 t2 a1 a2 l => cond (bdK t1 t2) (cond (and (Nat.ble t2 2) (and (Nat.ble 2 n) (Nat.ble (Nat.mul t2 2) (Nat.add l 2))))
      (K (Nat.add a1 t1) (Nat.add (Nat.add a2 t2) (Nat.add t2 4)))
      (fz (g n t1) fun u1 => fz (h n t2) fun u2 => fz (Nat.add a1 t1) fun c1 => fz (Nat.add a2 t2) fun c2 => fz (Nat.succ n) fun n' => ih n' u1 u2 c1 c2 t2)) false) f
theorem sumK_ok {nx : Nat → N2 → N2} {g h : Nat → Nat → Nat} {K : Nat → Nat → Bool} (hg : ∀ n t, 1 ≤ n → nx n t = (g n t.1, h n t.2)) : ∀ {f F n t1 t2 a1 a2 l : Nat}, f ≤ F → 1 ≤ n → sumK g h K f n t1 t2 a1 a2 l = true → ∃ r, sumF nx F n (t1, t2) (a1, a2) l = some r ∧ K r.1 r.2 = true
  | 0, _, _, _, _, _, _, _, _, _, hk => by cases hk
  | f + 1, F, n, t1, t2, a1, a2, l, hF, hn, hk => by
    obtain ⟨G, rfl⟩ : ∃ G, F = G + 1 := ⟨F - 1, by omega⟩
    change cond _ (cond _ _ _) false = true at hk
    rcases cond_t hk with ⟨hb, hk⟩ | ⟨_, hk⟩
    · unfold sumF
      rw [if_pos (bdK_ok hb)]
      rcases cond_t hk with ⟨hs, hk⟩ | ⟨hs, hk⟩
      · simp only [Bool.and_eq_true, Nat.ble_eq] at hs
        rw [if_pos ⟨hs.2.1, hs.1, hs.2.2⟩]
        exact ⟨_, rfl, hk⟩
      · have hs' : ¬ (2 ≤ n ∧ t2 ≤ 2 ∧ t2 * 2 ≤ l + 2) := fun hc => by
          have : and (Nat.ble t2 2) (and (Nat.ble 2 n) (Nat.ble (Nat.mul t2 2) (Nat.add l 2))) = true := by
            simp only [Bool.and_eq_true, Nat.ble_eq]; exact ⟨hc.2.1, hc.1, hc.2.2⟩
          rw [this] at hs; cases hs
        rw [if_neg hs', hg n _ hn]
        rw [fz_eq, fz_eq, fz_eq, fz_eq, fz_eq] at hk
        have hk' : sumK g h K f (n + 1) (g n t1) (h n t2) (a1 + t1) (a2 + t2) t2 = true := hk
        exact sumK_ok hg (by omega) (by omega) hk'
    · cases hk
theorem sumK_p {nx : Nat → N2 → N2} {g h : Nat → Nat → Nat} {K : Nat → Nat → Bool} {f t1 t2 : Nat} (hg : ∀ n t, 1 ≤ n → nx n t = (g n t.1, h n t.2)) (hf : f ≤ 1000) (hk : sumK g h K f 1 t1 t2 0 0 0 = true) : ∃ r, sumP nx (t1, t2) = some r ∧ K r.1 r.2 = true :=
  sumK_ok hg hf (Nat.le_refl 1) hk
def sqK (S S1 : Nat) (K : Nat → Nat → Bool) (h : Nat) : Nat → Nat → Bool :=
  Nat.rec (motive := fun _ => Nat → Nat → Bool) (fun a b => cond (bdK a b) (K a b) false) (fun _ ih a b => cond (bdK a b) (fz (Nat.div (Nat.mul a a) S) fun u => fz (Nat.div (Nat.add (Nat.mul b b) S1) S) fun v => ih u v) false) h
theorem sqK_ok {S S1 : Nat} {K : Nat → Nat → Bool} (hS : 0 < S) (h1 : S1 = S - 1) : ∀ {h a b : Nat}, sqK S S1 K h a b = true → ∃ r, sqF S h (a, b) = some r ∧ K r.1 r.2 = true
  | 0, a, b, hk => by
    change cond _ _ _ = true at hk
    rcases cond_t hk with ⟨hb, hk⟩ | ⟨_, hk⟩
    · unfold sqF; rw [if_pos (bdK_ok hb)]; exact ⟨_, rfl, hk⟩
    · cases hk
  | h + 1, a, b, hk => by
    change cond _ _ _ = true at hk
    rcases cond_t hk with ⟨hb, hk⟩ | ⟨_, hk⟩
    · unfold sqF; rw [if_pos (bdK_ok hb)]
      rw [fz_eq, fz_eq] at hk
      have hk' : sqK S S1 K h (Nat.div (Nat.mul a a) S) (Nat.div (Nat.add (Nat.mul b b) S1) S) = true := hk
      have h2 := sqK_ok hS h1 hk'
      rw [show tmP S (a, b) (a, b) = (Nat.div (Nat.mul a a) S, Nat.div (Nat.add (Nat.mul b b) S1) S) by unfold tmP; rw [upn_eq hS, h1]; rfl]
      exact h2
    · cases hk
def halfK (S : Nat) (K : Nat → Nat → Nat → Bool) (f : Nat) : Nat → Nat → Nat → Bool :=
  Nat.rec (motive := fun _ => Nat → Nat → Nat → Bool) (fun _ _ _ => false) (fun _ ih a b h => cond (Nat.ble (Nat.mul b 2) S) (K a b h) (fz (Nat.div a 2) fun u => fz (Nat.div (Nat.add b 1) 2) fun v => fz (Nat.succ h) fun i => ih u v i)) f
theorem halfK_ok {S : Nat} {K : Nat → Nat → Nat → Bool} : ∀ {f F a b h : Nat}, f ≤ F → halfK S K f a b h = true → ∃ p, halfF S F (a, b) h = some p ∧ K p.1.1 p.1.2 p.2 = true
  | 0, _, _, _, _, _, hk => by cases hk
  | f + 1, F, a, b, h, hF, hk => by
    obtain ⟨G, rfl⟩ : ∃ G, F = G + 1 := ⟨F - 1, by omega⟩
    change cond _ _ _ = true at hk
    unfold halfF
    rcases cond_t hk with ⟨hb, hk⟩ | ⟨hb, hk⟩
    · have : b * 2 ≤ S := by simpa using hb
      rw [if_neg (by simp only; omega)]; exact ⟨_, rfl, hk⟩
    · have : ¬ b * 2 ≤ S := fun hc => by rw [show Nat.ble (Nat.mul b 2) S = true from Nat.ble_eq_true_of_le hc] at hb; cases hb
      rw [if_pos (by simp only; omega)]
      rw [fz_eq, fz_eq, fz_eq] at hk
      have hk' : halfK S K f (Nat.div a 2) (Nat.div (Nat.add b 1) 2) (h + 1) = true := hk
      have h2 := halfK_ok (F := G) (by omega) hk'
      rw [show byP (a, b) 1 2 = (Nat.div a 2, Nat.div (Nat.add b 1) 2) by unfold byP; rw [upn_eq (by decide), Nat.mul_one, Nat.mul_one]; rfl]
      exact h2
def expK (S S1 : Nat) (K : Nat → Nat → Bool) (a b : Nat) : Bool :=
  cond (bdK a b) (halfK S (fun y1 y2 h => sumK (fun n t => Nat.div (Nat.div (Nat.mul t y1) S) n) (fun n t => Nat.div (Nat.add (Nat.div (Nat.add (Nat.mul t y2) S1) S) (Nat.pred n)) n) (sqK S S1 K h) 100 1 S S 0 0 0) 60 a b 0) false
theorem expK_ok {S S1 a b : Nat} {K : Nat → Nat → Bool} (hS : 0 < S) (h1 : S1 = S - 1) (hk : expK S S1 K a b = true) : ∃ r, expP S (a, b) = some r ∧ K r.1 r.2 = true := by
  unfold expK at hk
  rcases cond_t hk with ⟨hb, hk⟩ | ⟨_, hk⟩
  · obtain ⟨p, hp, hk⟩ := halfK_ok (F := 200) (by decide) hk
    obtain ⟨s, hs, hk⟩ := sumK_p (nx := expN S p.1) (fun n t hn => by
      unfold expN byP tmP
      simp only [Nat.mul_one]
      rw [upn_eq hS, upn_eq (by omega), h1]; rfl) (by decide) hk
    obtain ⟨r, hr, hk⟩ := sqK_ok hS h1 hk
    refine ⟨r, ?_, hk⟩
    unfold expP
    rw [if_pos (bdK_ok hb), hp, Option.bind_some, Nat.one_mul, hs, Option.bind_some]
    exact hr
  · cases hk
def artK (S S1 : Nat) (K : Nat → Nat → Bool) (a b : Nat) : Bool :=
  cond (bdK a b) (fz (Nat.div (Nat.mul a a) S) fun q1 => fz (Nat.div (Nat.add (Nat.mul b b) S1) S) fun q2 => cond (bdK q1 q2)
    (sumK (fun n t => Nat.div (Nat.mul (Nat.div (Nat.mul t q1) S) (Nat.pred (Nat.mul 2 n))) (Nat.succ (Nat.mul 2 n))) (fun n t => Nat.div (Nat.add (Nat.mul (Nat.div (Nat.add (Nat.mul t q2) S1) S) (Nat.pred (Nat.mul 2 n))) (Nat.mul 2 n)) (Nat.succ (Nat.mul 2 n))) (fun a1 a2 => K (Nat.mul a1 2) (Nat.mul a2 2)) 200 1 a b 0 0 0) false) false
theorem artK_ok {S S1 a b : Nat} {K : Nat → Nat → Bool} (hS : 0 < S) (h1 : S1 = S - 1) (hk : artK S S1 K a b = true) : ∃ r, artP S (a, b) = some r ∧ K r.1 r.2 = true := by
  unfold artK at hk
  rcases cond_t hk with ⟨hb, hk⟩ | ⟨_, hk⟩
  · simp only [fz_eq] at hk
    have hq : tmP S (a, b) (a, b) = (Nat.div (Nat.mul a a) S, Nat.div (Nat.add (Nat.mul b b) S1) S) := by unfold tmP; rw [upn_eq hS, h1]; rfl
    rcases cond_t hk with ⟨hc, hk⟩ | ⟨_, hk⟩
    · obtain ⟨s, hs, hk⟩ := sumK_p (nx := artN S (Nat.div (Nat.mul a a) S, Nat.div (Nat.add (Nat.mul b b) S1) S)) (fun n t hn => by
        unfold artN byP tmP
        rw [upn_eq hS, upn_eq (by omega), h1, show 2 * n + 1 - 1 = 2 * n from rfl]; rfl) (by decide) hk
      refine ⟨byP s 2 1, ?_, ?_⟩
      · unfold artP
        rw [if_pos (bdK_ok hb), hq, if_pos (bdK_ok hc), hs]; rfl
      · unfold byP
        rw [upn_eq (by decide), Nat.div_one, Nat.div_one]
        exact hk
    · cases hk
  · cases hk
def lgK (n : Nat) (K : Nat → Nat → Bool) (f : Nat) : Nat → Nat → Bool :=
  Nat.rec (motive := fun _ => Nat → Nat → Bool) (fun _ _ => false) (fun _ ih d k => cond (Nat.ble n (Nat.mul 2 d)) (K d k) (fz (Nat.mul 2 d) fun u => fz (Nat.succ k) fun i => ih u i)) f
theorem lgK_ok {n : Nat} {K : Nat → Nat → Bool} : ∀ {f F d k : Nat}, f ≤ F → lgK n K f d k = true → ∃ p, lgF F n d k = some p ∧ K p.1 p.2 = true
  | 0, _, _, _, _, hk => by cases hk
  | f + 1, F, d, k, hF, hk => by
    obtain ⟨G, rfl⟩ : ∃ G, F = G + 1 := ⟨F - 1, by omega⟩
    change cond _ _ _ = true at hk
    unfold lgF
    rcases cond_t hk with ⟨hb, hk⟩ | ⟨hb, hk⟩
    · have : n ≤ 2 * d := by simpa using hb
      rw [if_neg (by omega)]; exact ⟨_, rfl, hk⟩
    · have : ¬ n ≤ 2 * d := fun hc => by rw [show Nat.ble n (Nat.mul 2 d) = true from Nat.ble_eq_true_of_le hc] at hb; cases hb
      rw [if_pos (by omega)]
      rw [fz_eq, fz_eq] at hk
      have hk' : lgK n K f (2 * d) (k + 1) = true := hk
      exact lgK_ok (by omega) hk'
def logK (S S1 x1 x2 : Nat) (K : Nat → Nat → Bool) (n d : Nat) : Bool :=
  lgK n (fun p k => fz (Nat.mul (Nat.sub n p) S) fun u => artK S S1 (fun a1 a2 => K (Nat.add a1 (Nat.mul x1 k)) (Nat.add a2 (Nat.mul x2 k))) (Nat.div u (Nat.add n p)) (Nat.div (Nat.add u (Nat.pred (Nat.add n p))) (Nat.add n p))) 60 d 0
theorem lg_pos : ∀ {f n d k : Nat} {p : Nat × Nat}, 0 < d → lgF f n d k = some p → 0 < p.1
  | 0, _, _, _, _, _, h => by cases h
  | f + 1, n, d, k, p, hd, h => by
    unfold lgF at h
    split at h
    · exact lg_pos (by omega) h
    · cases h; exact hd
theorem logK_ok {S S1 n d : Nat} {x : N2} {K : Nat → Nat → Bool} (hS : 0 < S) (h1 : S1 = S - 1) (hx : artP S (ofP S 1 3) = some x) (hn : n < 10 ^ 80) (hd : d < 10 ^ 80) (h0 : 0 < d) (hdn : d ≤ n) (hk : logK S S1 x.1 x.2 K n d = true) : ∃ r, logP S n d = some r ∧ K r.1 r.2 = true := by
  unfold logK at hk
  obtain ⟨p, hp, hk⟩ := lgK_ok (F := 100) (by decide) hk
  have hp0 := lg_pos h0 hp
  simp only [fz_eq] at hk
  obtain ⟨a, ha, hk⟩ := artK_ok hS h1 hk
  refine ⟨plP a (byP x p.2 1), ?_, ?_⟩
  · unfold logP
    rw [if_pos ⟨hn, hd, h0, hdn⟩, hp, Option.bind_some, hx, Option.bind_some]
    have : ofP S (n - p.1) (n + p.1) = (Nat.div (Nat.mul (Nat.sub n p.1) S) (Nat.add n p.1), Nat.div (Nat.add (Nat.mul (Nat.sub n p.1) S) (Nat.pred (Nat.add n p.1))) (Nat.add n p.1)) := by
      unfold ofP; rw [upn_eq (by omega)]; rfl
    rw [this, ha]; rfl
  · unfold plP byP
    rw [upn_eq (by decide), Nat.div_one, Nat.div_one]
    exact hk
end Go.Proofs.YteojhdahhaodoaaGreatDoor
namespace Go.Proofs.YteojhdahhaodoaaGreatDoor
open Go Go.Eng Go.RowKit
theorem fl_n {u pl k : Nat} : flI (u : Int) (tenI (pl + k)) (tenI pl) = ((u / 10 ^ k : Nat) : Int) := by
  unfold flI tenI
  rw [← Int.natCast_mul, ← Int.natCast_ediv, Nat.pow_add, Nat.mul_comm (10 ^ pl) (10 ^ k), Nat.mul_div_mul_right _ _ (Nat.pow_pos (by decide))]
theorem cl_n {u pl k : Nat} : clI (u : Int) (tenI (pl + k)) (tenI pl) = ((upn u (10 ^ k) : Nat) : Int) := by
  have h1 := fl_n (u := u) (pl := pl) (k := k)
  unfold flI at h1
  unfold clI upn
  rw [h1]
  have hp : 0 < 10 ^ pl := Nat.pow_pos (by decide)
  have h2 : (u : Int) * tenI pl % tenI (pl + k) = ((u % 10 ^ k * 10 ^ pl : Nat) : Int) := by
    unfold tenI
    rw [← Int.natCast_mul, ← Int.natCast_emod, Nat.pow_add, Nat.mul_comm (10 ^ pl) (10 ^ k), Nat.mul_mod_mul_right]
  rw [h2]
  by_cases h : u % 10 ^ k = 0
  · rw [if_pos h, if_pos (by rw [h, Nat.zero_mul]; rfl)]
  · have h4 : 0 < u % 10 ^ k * 10 ^ pl := Nat.mul_pos (by omega) hp
    rw [if_neg h, if_neg (by omega)]; rfl
theorem flI_neg {a b t : Int} (hb : 0 < b) : flI (-a) b t = - clI a b t := by
  unfold flI clI
  rw [Int.neg_mul, Int.neg_ediv]
  by_cases h : a * t % b = 0
  · rw [if_pos h, if_pos (Int.dvd_of_emod_eq_zero h)]; omega
  · rw [if_neg h, if_neg (fun hd => h (Int.emod_eq_zero_of_dvd hd)), Int.sign_eq_one_of_pos hb]; omega
theorem clI_neg {a b t : Int} (hb : 0 < b) : clI (-a) b t = - flI a b t := by
  have h := flI_neg (a := -a) (t := t) hb
  rw [Int.neg_neg] at h
  omega
theorem cl_fl_le {a b t : Int} : flI a b t ≤ clI a b t := by unfold flI clI; split <;> omega
def cellK (k a b : Nat) (K : Nat → Nat → Bool) : Bool :=
  cond (and (Nat.ble a b) (Nat.ble b 1000000000000000000000000000000000000000000000000000000000000)) (fz (Nat.div a k) fun f => fz (Nat.div (Nat.add b (Nat.pred k)) k) fun c => cond (Nat.ble c (Nat.succ f)) (K f c) false) false
theorem cellK_ok {a b : Nat} {K : Nat → Nat → Bool} (pl : Nat) (h : cellK 1000000000000000 a b K = true) : ∃ f c : Nat, CellR pl ((a : Int), (b : Int)) (f : Int) (c : Int) ∧ CellR pl (-(b : Int), -(a : Int)) (-(c : Int)) (-(f : Int)) ∧ K f c = true ∧ a ≤ b := by
  unfold cellK at h
  rcases cond_t h with ⟨h1, h⟩ | ⟨_, h⟩
  · simp only [Bool.and_eq_true, Nat.ble_eq] at h1
    obtain ⟨h1, h2⟩ := h1
    simp only [fz_eq] at h
    have hk : (10 : Nat) ^ 15 = 1000000000000000 := by decide
    rcases cond_t h with ⟨h3, h⟩ | ⟨_, h⟩
    · rw [Nat.ble_eq] at h3
      have e1 : Nat.div a 1000000000000000 = a / 10 ^ 15 := by rw [hk]; rfl
      have e2 : Nat.div (Nat.add b (Nat.pred 1000000000000000)) 1000000000000000 = upn b (10 ^ 15) := by rw [upn_eq (by decide), hk]; rfl
      rw [e1, e2] at h h3
      have f1 : a / 10 ^ 15 ≤ a := Nat.div_le_self _ _
      have f2 : upn b (10 ^ 15) ≤ b := upn_le (by decide)
      have hle : ((a / 10 ^ 15 : Nat) : Int) ≤ ((upn b (10 ^ 15) : Nat) : Int) := by
        have : a / 10 ^ 15 ≤ upn b (10 ^ 15) := by
          rw [upn_eq (by decide)]; exact Nat.div_le_div_right (by omega)
        omega
      have l1 : (1000000000000000000000000000000000000000000000000000000000000 : Nat) < 10 ^ 70 := by decide
      have l2 : (1000000000000000000000000000000000000000000000000000000000000 : Nat) < 10 ^ 90 := by decide
      refine ⟨a / 10 ^ 15, upn b (10 ^ 15), ⟨by simp only; omega, by simp only; omega, by simp only; omega, fl_n, cl_n, by omega, by omega, hle, by omega⟩, ⟨by simp only; omega, by simp only; omega, by simp only; omega, ?_, ?_, by omega, by omega, by omega, by omega⟩, h, h1⟩
      · rw [flI_neg (ten_pos _)]; simp only [cl_n]
      · rw [clI_neg (ten_pos _)]; simp only [fl_n]
    · cases h
  · cases h
def allN (ck : Nat → Bool) (n : Nat) : Bool := Nat.rec (motive := fun _ => Bool) true (fun m ih => cond (ck (Nat.succ m)) ih false) n
theorem allN_ok {ck : Nat → Bool} : ∀ {n : Nat}, allN ck n = true → ∀ i, 1 ≤ i → i ≤ n → ck i = true
  | 0, _, i, h1, h2 => by omega
  | n + 1, h, i, h1, h2 => by
    change cond _ _ _ = true at h
    rcases cond_t h with ⟨h3, h⟩ | ⟨_, h⟩
    · by_cases e : i = n + 1
      · subst e; exact h3
      · have h' : allN ck n = true := h
        exact allN_ok h' i h1 (by omega)
    · cases h
def expCk (N d : Nat) : Bool := fz (Nat.mul N 10000000000000000000000000) fun u => expK 10000000000000000000000000 9999999999999999999999999 (fun e1 e2 =>
    cond (cellK 1000000000000000 e1 e2 fun _ c => Nat.ble (Nat.mul (Nat.add N d) 10000000000) (Nat.mul c d))
      (cond (Nat.ble 1 e1) (fz (Nat.div 100000000000000000000000000000000000000000000000000 e2) fun r1 => fz (Nat.div (Nat.add 100000000000000000000000000000000000000000000000000 (Nat.pred e1)) e1) fun r2 => cellK 1000000000000000 r1 r2 fun _ c => Nat.ble (Nat.mul d 10000000000) (Nat.add (Nat.mul c d) (Nat.mul N 10000000000))) false) false)
  (Nat.div u d) (Nat.div (Nat.add u (Nat.pred d)) d)
abbrev S25 : Nat := 10000000000000000000000000
def ExR (N : Int) (d : Nat) : Prop := ∃ r, ∃ f c : Int, exP S25 N d = some r ∧ CellR 10 (zP r) f c ∧ (N + d) * 10000000000 ≤ c * d ∧ 0 ≤ f
theorem of_eq {S N d : Nat} (hd : 0 < d) : ofP S N d = (Nat.div (Nat.mul N S) d, Nat.div (Nat.add (Nat.mul N S) (Nat.pred d)) d) := by unfold ofP; rw [upn_eq hd]; rfl
theorem expCk_ok {N d : Nat} (hN : 0 < N) (hN9 : N < 10 ^ 90) (hd : 0 < d) (hd9 : d < 10 ^ 90) (h : expCk N d = true) : ExR (N : Int) d ∧ ExR (-(N : Int)) d := by
  unfold expCk at h
  rw [fz_eq] at h
  rw [show (Nat.div (Nat.mul N 10000000000000000000000000) d) = (ofP S25 N d).1 by rw [of_eq hd], show (Nat.div (Nat.add (Nat.mul N 10000000000000000000000000) (Nat.pred d)) d) = (ofP S25 N d).2 by rw [of_eq hd]] at h
  obtain ⟨e, he, h⟩ := expK_ok (by decide) (by decide) h
  rcases cond_t h with ⟨h1, h⟩ | ⟨_, h⟩
  · rcases cond_t h with ⟨h2, h⟩ | ⟨_, h⟩
    · simp only [fz_eq] at h
      rw [Nat.ble_eq] at h2
      obtain ⟨f, c, c1, _, c3, c4⟩ := cellK_ok 10 h1
      obtain ⟨f', c', d1, _, d3, d4⟩ := cellK_ok 10 h
      rw [Nat.ble_eq] at c3 d3
      constructor
      · refine ⟨e, f, c, ?_, c1, ?_, by omega⟩
        · unfold exP
          rw [if_pos ⟨by omega, hd9, hd⟩, show ((N : Int)).natAbs = N from rfl, he, Option.bind_some, if_neg (by omega)]
        · have : ((((N + d) * 10000000000 : Nat)) : Int) ≤ ((c * d : Nat) : Int) := Int.ofNat_le.2 c3
          rw [Int.natCast_mul, Int.natCast_mul, Int.natCast_add] at this
          exact this
      · have e3 : ovP S25 (1 * S25, 1 * S25) e = (Nat.div 100000000000000000000000000000000000000000000000000 e.2, Nat.div (Nat.add 100000000000000000000000000000000000000000000000000 (Nat.pred e.1)) e.1) := by
          unfold ovP
          rw [upn_eq (by omega)]; rfl
        refine ⟨(Nat.div 100000000000000000000000000000000000000000000000000 e.2, Nat.div (Nat.add 100000000000000000000000000000000000000000000000000 (Nat.pred e.1)) e.1), f', c', ?_, d1, ?_, by omega⟩
        · unfold exP
          rw [if_pos ⟨by omega, hd9, hd⟩, show (-(N : Int)).natAbs = N by omega, he, Option.bind_some, if_pos (by omega), if_pos ⟨by omega, by omega⟩, e3]
        · have : (((d * 10000000000 : Nat)) : Int) ≤ ((c' * d + N * 10000000000 : Nat) : Int) := Int.ofNat_le.2 d3
          rw [Int.natCast_mul, Int.natCast_add, Int.natCast_mul, Int.natCast_mul] at this
          rw [Int.add_mul, Int.neg_mul]
          have h5 : ((10000000000 : Nat) : Int) = 10000000000 := rfl
          rw [h5] at this
          omega
    · cases h
  · cases h
def expRow (d : Nat) : Bool := allN (fun N => cond (Nat.beq (Nat.gcd N d) 1) (expCk N d) true) (Nat.mul 19 d)
def expRows (lo n : Nat) : Bool := allN (fun i => fz (Nat.add lo i) expRow) n
theorem expRows_ok {lo n N d : Nat} (h : expRows lo n = true) (hl : lo < d) (hh : d ≤ lo + n) (hN : 0 < N) (h19 : N ≤ 19 * d) (hd : d ≤ 1000) (hg : Nat.gcd N d = 1) : ExR (N : Int) d ∧ ExR (-(N : Int)) d := by
  unfold expRows at h
  have h1 := allN_ok h (d - lo) (by omega) (by omega)
  rw [fz_eq, show Nat.add lo (d - lo) = d from by show lo + (d - lo) = d; omega] at h1
  unfold expRow at h1
  have h2 := allN_ok h1 N hN h19
  have l1 : 19 * 1000 < 10 ^ 90 := by decide
  rcases cond_t h2 with ⟨_, h3⟩ | ⟨h3, _⟩
  · exact expCk_ok hN (by omega) (by omega) (by omega) h3
  · rw [hg] at h3; cases h3
def logCk (x1 x2 n d : Nat) : Bool := logK 10000000000000000000000000 9999999999999999999999999 x1 x2 (fun u1 u2 => cellK 1000000000000000 u1 u2 fun f c => and (Nat.ble (Nat.add (Nat.mul f d) (Nat.mul d 10000000000)) (Nat.mul n 10000000000)) (Nat.ble (Nat.mul n 10000000000) (Nat.add (Nat.mul c n) (Nat.mul d 10000000000)))) n d
def LgR (n d : Nat) : Prop := ∃ r, ∃ f c : Int, lgB S25 n d = some r ∧ CellR 10 r f c ∧ f * d ≤ ((n : Int) - d) * 10000000000
theorem logCk_ok {x : N2} {n d : Nat} (hx : artP S25 (ofP S25 1 3) = some x) (hd : 0 < d) (hdn : d < n) (hn : n < 10 ^ 80) (h : logCk x.1 x.2 n d = true) : LgR n d ∧ LgR d n := by
  obtain ⟨u, hu, h⟩ := logK_ok (by decide) (by decide) hx hn (by omega) hd (by omega) h
  obtain ⟨f, c, c1, c2, c3, _⟩ := cellK_ok 10 h
  simp only [Bool.and_eq_true, Nat.ble_eq] at c3
  obtain ⟨c3, c5⟩ := c3
  have h5 : ((10000000000 : Nat) : Int) = 10000000000 := rfl
  constructor
  · refine ⟨zP u, f, c, ?_, c1, ?_⟩
    · unfold lgB
      rw [if_pos ⟨hn, by omega, hd, by omega⟩, if_neg (by omega), hu]; rfl
    · have : ((f * d + d * 10000000000 : Nat) : Int) ≤ ((n * 10000000000 : Nat) : Int) := Int.ofNat_le.2 c3
      rw [Int.natCast_add, Int.natCast_mul, Int.natCast_mul, Int.natCast_mul, h5] at this
      omega
  · refine ⟨_, _, _, ?_, c2, ?_⟩
    · unfold lgB
      rw [if_pos ⟨by omega, hn, by omega, hd⟩, if_pos hdn, hu]
      show some ((0 : Int) - (u.2 : Int), (0 : Int) - (u.1 : Int)) = _
      rw [Int.zero_sub, Int.zero_sub]
    · have : ((n * 10000000000 : Nat) : Int) ≤ ((c * n + d * 10000000000 : Nat) : Int) := Int.ofNat_le.2 c5
      rw [Int.natCast_add, Int.natCast_mul, Int.natCast_mul, Int.natCast_mul, h5] at this
      rw [Int.neg_mul]
      omega
def logRow (x1 x2 d : Nat) : Bool := allN (fun i => fz (Nat.add d i) fun n => cond (Nat.beq (Nat.gcd n d) 1) (logCk x1 x2 n d) true) (Nat.sub 999 d)
def logRows (x1 x2 lo n : Nat) : Bool := allN (fun i => fz (Nat.add lo i) (logRow x1 x2)) n
theorem logRows_ok {x : N2} {lo m n d : Nat} (hx : artP S25 (ofP S25 1 3) = some x) (h : logRows x.1 x.2 lo m = true) (hl : lo < d) (hh : d ≤ lo + m) (hdn : d < n) (h9 : n ≤ 999) (hg : Nat.gcd n d = 1) : LgR n d ∧ LgR d n := by
  unfold logRows at h
  have h1 := allN_ok h (d - lo) (by omega) (by omega)
  rw [fz_eq, show Nat.add lo (d - lo) = d from by show lo + (d - lo) = d; omega] at h1
  unfold logRow at h1
  have h2 := allN_ok h1 (n - d) (by omega) (by show n - d ≤ 999 - d; omega)
  rw [fz_eq, show Nat.add d (n - d) = n from by show d + (n - d) = n; omega] at h2
  have l1 : 999 < 10 ^ 80 := by decide
  rcases cond_t h2 with ⟨_, h3⟩ | ⟨h3, _⟩
  · exact logCk_ok hx (by omega) hdn (by omega) h3
  · rw [hg] at h3; cases h3
end Go.Proofs.YteojhdahhaodoaaGreatDoor
namespace Go.Proofs.YteojhdahhaodoaaGreatDoor
open Go Go.Eng Go.RowKit
def hnK (S S1 c1 c2 : Nat) (K : Nat → Nat → Bool) (n d : Nat) : Bool :=
  fz (Nat.mul n S) fun u => fz (Nat.div u d) fun v1 => fz (Nat.div (Nat.add u (Nat.pred d)) d) fun v2 => fz (Nat.div (Nat.mul v1 v1) S) fun q1 => fz (Nat.div (Nat.add (Nat.mul v2 v2) S1) S) fun q2 =>
  cond (and (bdK n d) (and (bdK v1 v2) (bdK q1 q2))) (sumK (fun n t => Nat.div (Nat.div (Nat.mul t q1) S) (Nat.succ (Nat.mul 2 n))) (fun n t => Nat.div (Nat.add (Nat.div (Nat.add (Nat.mul t q2) S1) S) (Nat.mul 2 n)) (Nat.succ (Nat.mul 2 n)))
    (fun s1 s2 => cond (bdK s1 s2) (expK S S1 (fun e1 e2 => fz (Nat.div (Nat.mul e1 c1) S) fun m1 => fz (Nat.div (Nat.add (Nat.mul e2 c2) S1) S) fun m2 => cond (and (Nat.ble 1 m1) (Nat.ble 1 m2)) (fz (Nat.div (Nat.mul s1 S) m2) fun r1 => fz (Nat.div (Nat.add (Nat.mul s2 S) (Nat.pred m1)) m1) fun r2 => K r1 r2) false) (Nat.div q1 2) (Nat.div (Nat.succ q2) 2)) false) 500 1 v1 v2 0 0 0) false
theorem hnK_ok {S S1 pl n d : Nat} {c : N2} {K : Nat → Nat → Bool} (hS : 0 < S) (h1 : S1 = S - 1) (hc : rootP S (byP (piN pl, piN pl + 1) 2 1) = some c) (hcb : bdB c = true) (hd : 0 < d) (hk : hnK S S1 c.1 c.2 K n d = true) : ∃ r, hnP S pl n d = some r ∧ K r.1 r.2 = true := by
  unfold hnK at hk
  rw [fz_eq, fz_eq, fz_eq, fz_eq, fz_eq] at hk
  rcases cond_t hk with ⟨hb, hk⟩ | ⟨_, hk⟩
  · simp only [Bool.and_eq_true] at hb
    have e1 : (Nat.div (Nat.mul n S) d, Nat.div (Nat.add (Nat.mul n S) (Nat.pred d)) d) = ofP S n d := (of_eq hd).symm
    rw [show Nat.div (Nat.mul n S) d = (ofP S n d).1 from congrArg Prod.fst e1, show Nat.div (Nat.add (Nat.mul n S) (Nat.pred d)) d = (ofP S n d).2 from congrArg Prod.snd e1] at hb hk
    have e2 : (Nat.div (Nat.mul (ofP S n d).1 (ofP S n d).1) S, Nat.div (Nat.add (Nat.mul (ofP S n d).2 (ofP S n d).2) S1) S) = tmP S (ofP S n d) (ofP S n d) := by unfold tmP; rw [upn_eq hS, h1]; rfl
    rw [show Nat.div (Nat.mul (ofP S n d).1 (ofP S n d).1) S = (tmP S (ofP S n d) (ofP S n d)).1 from congrArg Prod.fst e2, show Nat.div (Nat.add (Nat.mul (ofP S n d).2 (ofP S n d).2) S1) S = (tmP S (ofP S n d) (ofP S n d)).2 from congrArg Prod.snd e2] at hb hk
    obtain ⟨s, hs, hk⟩ := sumK_p (nx := hnN S (tmP S (ofP S n d) (ofP S n d))) (fun n t hn => by
      unfold hnN byP
      simp only [Nat.mul_one]
      rw [upn_eq (by omega), show 2 * n + 1 - 1 = 2 * n from rfl]
      unfold tmP
      simp only []
      rw [upn_eq hS, h1]; rfl) (by decide) hk
    rcases cond_t hk with ⟨hsb, hk⟩ | ⟨_, hk⟩
    · obtain ⟨e, he, hk⟩ := expK_ok hS h1 hk
      simp only [fz_eq] at hk
      rcases cond_t hk with ⟨hm, hk⟩ | ⟨_, hk⟩
      · simp only [Bool.and_eq_true, Nat.ble_eq] at hm
        have e3 : (Nat.div (Nat.mul e.1 c.1) S, Nat.div (Nat.add (Nat.mul e.2 c.2) S1) S) = tmP S e c := by unfold tmP; rw [upn_eq hS, h1]; rfl
        rw [show Nat.div (Nat.mul e.1 c.1) S = (tmP S e c).1 from congrArg Prod.fst e3, show Nat.div (Nat.add (Nat.mul e.2 c.2) S1) S = (tmP S e c).2 from congrArg Prod.snd e3] at hm hk
        refine ⟨ovP S s (tmP S e c), ?_, ?_⟩
        · unfold hnP
          rw [if_pos ⟨bdK_ok hb.1, hd, bdK_ok hb.2.1, bdK_ok hb.2.2⟩, hs, Option.bind_some]
          rw [show byP (tmP S (ofP S n d) (ofP S n d)) 1 2 = (Nat.div (tmP S (ofP S n d) (ofP S n d)).1 2, Nat.div (Nat.succ (tmP S (ofP S n d) (ofP S n d)).2) 2) by unfold byP; rw [upn_eq (by decide), Nat.mul_one, Nat.mul_one]; rfl, he, Option.bind_some, hc, Option.bind_some, if_pos ⟨bdK_ok hsb, hcb, by omega, by omega⟩]
        · unfold ovP
          rw [upn_eq (by omega)]
          exact hk
      · cases hk
    · cases hk
  · cases hk
end Go.Proofs.YteojhdahhaodoaaGreatDoor
namespace Go.Proofs.YteojhdahhaodoaaGreatDoor
open Go Go.Eng Go.RowKit
structure FSt where
  a : Nat
  b : Nat
  c : Nat
  d : Nat
  lf : Nat
  lc : Nat
def farK (ck : Nat → Nat → (Nat → Nat → Bool) → Bool) (s : FSt) (m : Nat) : Nat → Nat → Nat → Nat → Nat → Nat → Bool :=
  Nat.rec (motive := fun _ => Nat → Nat → Nat → Nat → Nat → Nat → Bool) (fun a b c d f g => and (Nat.beq a s.a) (and (Nat.beq b s.b) (and (Nat.beq c s.c) (and (Nat.beq d s.d) (and (Nat.beq f s.lf) (Nat.beq g s.lc))))))
    (fun _ ih a b c d lf lc => ck a b fun f g => cond (and (Nat.ble lf f) (Nat.ble lc g)) (fz (Nat.div (Nat.add 50 b) d) fun k => fz (Nat.sub (Nat.mul k c) a) fun c' => fz (Nat.sub (Nat.mul k d) b) fun d' => ih c d c' d' f g) false) m
structure FInv (s : FSt) : Prop where
  a1 : 0 < s.a
  adj : s.b * s.c = s.a * s.d + 1
  far : 50 < s.b + s.d
  b1 : 0 < s.b
  b2 : s.b ≤ 50
  d1 : 0 < s.d
  d2 : s.d ≤ 50
def InS (s t : FSt) (n d : Nat) : Prop := 0 < d ∧ d ≤ 50 ∧ Nat.gcd n d = 1 ∧ s.a * d ≤ n * s.b ∧ n * t.b < t.a * d
def Seg (P : Nat → Nat → Nat → Nat → Prop) (s t : FSt) : Prop :=
  s.lf ≤ t.lf ∧ s.lc ≤ t.lc ∧ ∀ n d, InS s t n d → ∃ f c, P n d f c ∧ s.lf ≤ f ∧ s.lc ≤ c ∧ f ≤ t.lf ∧ c ≤ t.lc ∧ ∀ n' d', InS s t n' d' → n * d' < n' * d → ∃ f' c', P n' d' f' c' ∧ f ≤ f' ∧ c ≤ c'
theorem Seg.trans {P : Nat → Nat → Nat → Nat → Prop} {s t u : FSt} (h1 : Seg P s t) (h2 : Seg P t u) (hb : 0 < s.b ∧ 0 < t.b ∧ 0 < u.b) : Seg P s u := by
  obtain ⟨x1, x2, x3⟩ := h1
  obtain ⟨y1, y2, y3⟩ := h2
  refine ⟨by omega, by omega, fun n d hn => ?_⟩
  obtain ⟨hd, h50, hg, hs, hu⟩ := hn
  by_cases ht : n * t.b < t.a * d
  · obtain ⟨f, c, p, p1, p2, p3, p4, p5⟩ := x3 n d ⟨hd, h50, hg, hs, ht⟩
    refine ⟨f, c, p, p1, p2, by omega, by omega, fun n' d' hn' hl => ?_⟩
    obtain ⟨hd', h50', hg', hs', hu'⟩ := hn'
    by_cases ht' : n' * t.b < t.a * d'
    · exact p5 n' d' ⟨hd', h50', hg', hs', ht'⟩ hl
    · obtain ⟨f', c', q, q1, q2, _⟩ := y3 n' d' ⟨hd', h50', hg', by omega, hu'⟩
      exact ⟨f', c', q, by omega, by omega⟩
  · obtain ⟨f, c, p, p1, p2, p3, p4, p5⟩ := y3 n d ⟨hd, h50, hg, by omega, hu⟩
    refine ⟨f, c, p, by omega, by omega, p3, p4, fun n' d' hn' hl => ?_⟩
    obtain ⟨hd', h50', hg', hs', hu'⟩ := hn'
    refine p5 n' d' ⟨hd', h50', hg', ?_, hu'⟩ hl
    have h3 : t.a * d ≤ n * t.b := by omega
    have h4 : t.a * d * d' ≤ n * t.b * d' := Nat.mul_le_mul_right _ h3
    have h5 : n * d' * t.b ≤ n' * d * t.b := Nat.mul_le_mul_right _ (by omega)
    have h6 : (t.a * d') * d ≤ (n' * t.b) * d := by
      rw [show t.a * d' * d = t.a * d * d' by grind, show n' * t.b * d = n' * d * t.b by grind]
      rw [show n * t.b * d' = n * d' * t.b by grind] at h4
      omega
    exact Nat.le_of_mul_le_mul_right h6 hd
theorem far_eq {s : FSt} (hi : FInv s) {n d : Nat} (hd : 0 < d) (h50 : d ≤ 50) (hg : Nat.gcd n d = 1) (h1 : s.a * d ≤ n * s.b) (h2 : n * s.d < s.c * d) : n = s.a ∧ d = s.b := by
  obtain ⟨_, ha, hf, hb, _, hd1, _⟩ := hi
  by_cases he : n * s.b = s.a * d
  · have hga : Nat.gcd s.a s.b = 1 := by
      have h3 : Nat.gcd s.a s.b ∣ s.b * s.c := Nat.dvd_trans (Nat.gcd_dvd_right _ _) (Nat.dvd_mul_right _ _)
      have h4 : Nat.gcd s.a s.b ∣ s.a * s.d := Nat.dvd_trans (Nat.gcd_dvd_left _ _) (Nat.dvd_mul_right _ _)
      rw [ha] at h3
      exact Nat.dvd_one.1 ((Nat.dvd_add_right h4).1 h3)
    have h3 : s.b ∣ d := (Nat.Coprime.dvd_of_dvd_mul_left (k := s.b) (m := s.a) (n := d) (by rw [Nat.Coprime, Nat.gcd_comm]; exact hga) ⟨n, by rw [Nat.mul_comm s.b n]; exact he.symm⟩)
    have h4 : d ∣ s.b := (Nat.Coprime.dvd_of_dvd_mul_left (k := d) (m := n) (n := s.b) (by rw [Nat.Coprime, Nat.gcd_comm]; exact hg) ⟨s.a, by rw [Nat.mul_comm d s.a]; exact he⟩)
    have h5 : d = s.b := Nat.dvd_antisymm h4 h3
    subst h5
    exact ⟨Nat.eq_of_mul_eq_mul_right hd he, rfl⟩
  · exfalso
    have h3 : s.a * d + 1 ≤ n * s.b := by omega
    have h4 : n * s.d + 1 ≤ s.c * d := by omega
    have h5 : s.d * (s.a * d + 1) ≤ s.d * (n * s.b) := Nat.mul_le_mul_left _ h3
    have h6 : s.b * (n * s.d + 1) ≤ s.b * (s.c * d) := Nat.mul_le_mul_left _ h4
    have h7 : d * (s.b * s.c) = d * (s.a * s.d + 1) := by rw [ha]
    have h8 : s.b + s.d ≤ d := by grind
    omega
theorem far_next {s : FSt} {f g : Nat} (hi : FInv s) : FInv ⟨s.c, s.d, (50 + s.b) / s.d * s.c - s.a, (50 + s.b) / s.d * s.d - s.b, f, g⟩ := by
  obtain ⟨ha1, ha, hf, hb, hb2, hd1, hd2⟩ := hi
  have h1 := Nat.div_add_mod (50 + s.b) s.d
  have h2 := Nat.mod_lt (50 + s.b) hd1
  have hk : 0 < (50 + s.b) / s.d := Nat.div_pos (by omega) hd1
  generalize (50 + s.b) / s.d = k at *
  generalize (50 + s.b) % s.d = r at *
  have h3 : s.b ≤ k * s.d := by rw [Nat.mul_comm]; omega
  have h4 : s.a ≤ k * s.c := by
    have h5 : s.a * s.d ≤ (k * s.c) * s.d := by
      have h7 : s.b * s.c ≤ k * s.d * s.c := Nat.mul_le_mul_right _ h3
      rw [show k * s.c * s.d = k * s.d * s.c by grind]; omega
    exact Nat.le_of_mul_le_mul_right h5 hd1
  have hc1 : 0 < s.c := by
    rcases Nat.eq_zero_or_pos s.c with h | h
    · rw [h, Nat.mul_zero] at ha; omega
    · exact h
  refine ⟨hc1, ?_, ?_, hd1, hd2, ?_, ?_⟩
  · show s.d * (k * s.c - s.a) = s.c * (k * s.d - s.b) + 1
    obtain ⟨x, hx⟩ := Nat.exists_eq_add_of_le h3
    obtain ⟨y, hy⟩ := Nat.exists_eq_add_of_le h4
    rw [hx, hy, Nat.add_sub_cancel_left, Nat.add_sub_cancel_left]
    grind
  · show 50 < s.d + (k * s.d - s.b); rw [Nat.mul_comm k]; omega
  · show 0 < k * s.d - s.b; rw [Nat.mul_comm k]; omega
  · show k * s.d - s.b ≤ 50; rw [Nat.mul_comm k]; omega
theorem far_ok {P : Nat → Nat → Nat → Nat → Prop} {ck : Nat → Nat → (Nat → Nat → Bool) → Bool} (hck : ∀ n d K, 0 < n → 0 < d → d ≤ 50 → ck n d K = true → ∃ f c, P n d f c ∧ K f c = true) {t : FSt} : ∀ {m : Nat} {s : FSt}, FInv s → farK ck t m s.a s.b s.c s.d s.lf s.lc = true → FInv t ∧ Seg P s t
  | 0, s, hi, h => by
    have h' : and (Nat.beq s.a t.a) (and (Nat.beq s.b t.b) (and (Nat.beq s.c t.c) (and (Nat.beq s.d t.d) (and (Nat.beq s.lf t.lf) (Nat.beq s.lc t.lc))))) = true := h
    simp only [Bool.and_eq_true, Nat.beq_eq_true_eq] at h'
    obtain ⟨e1, e2, e3, e4, e5, e6⟩ := h'
    have e : s = t := by cases s; cases t; simp_all
    subst e
    exact ⟨hi, Nat.le_refl _, Nat.le_refl _, fun n d hn => by obtain ⟨_, _, _, h1, h2⟩ := hn; omega⟩
  | m + 1, s, hi, h => by
    have h' : ck s.a s.b (fun f g => cond (and (Nat.ble s.lf f) (Nat.ble s.lc g)) (fz (Nat.div (Nat.add 50 s.b) s.d) fun k => fz (Nat.sub (Nat.mul k s.c) s.a) fun c' => fz (Nat.sub (Nat.mul k s.d) s.b) fun d' => farK ck t m s.c s.d c' d' f g) false) = true := h
    obtain ⟨f, c, hP, hk⟩ := hck _ _ _ hi.a1 hi.b1 hi.b2 h'
    rcases cond_t hk with ⟨hle, hk⟩ | ⟨_, hk⟩
    · simp only [Bool.and_eq_true, Nat.ble_eq] at hle
      simp only [fz_eq] at hk
      obtain ⟨hi', hs⟩ := far_ok hck (s := ⟨s.c, s.d, (50 + s.b) / s.d * s.c - s.a, (50 + s.b) / s.d * s.d - s.b, f, c⟩) (far_next hi) hk
      refine ⟨hi', Seg.trans (t := ⟨s.c, s.d, (50 + s.b) / s.d * s.c - s.a, (50 + s.b) / s.d * s.d - s.b, f, c⟩) ⟨hle.1, hle.2, fun n d hn => ?_⟩ hs ⟨hi.b1, hi.d1, hi'.b1⟩⟩
      obtain ⟨h1, h2, h3, h4, h5⟩ := hn
      obtain ⟨rfl, rfl⟩ := far_eq hi h1 h2 h3 h4 h5
      refine ⟨f, c, hP, hle.1, hle.2, Nat.le_refl _, Nat.le_refl _, fun n' d' hn' hl => ?_⟩
      obtain ⟨h1, h2, h3, h4, h5⟩ := hn'
      obtain ⟨rfl, rfl⟩ := far_eq hi h1 h2 h3 h4 h5
      omega
    · cases hk
end Go.Proofs.YteojhdahhaodoaaGreatDoor
namespace Go.Proofs.YteojhdahhaodoaaGreatDoor
open Go Go.Eng Go.RowKit
theorem ten_le60 {n : Nat} (h : n ≤ 60) : tenI n ≤ 10 ^ 60 := by
  unfold tenI
  have h1 : (10 : Nat) ^ n ≤ 10 ^ 60 := Nat.pow_le_pow_right (by decide) h
  have h2 : (((10 : Nat) ^ 60 : Nat) : Int) = (10 : Int) ^ 60 := by norm_cast
  omega
theorem cellW_ok (k pl : Nat) {a b : Nat} (h1 : a ≤ b) (h2 : b ≤ 1000000000000000000000000000000000000000000000000000000000000) :
    CellW k pl ((a : Int), (b : Int)) ((a / 10 ^ k : Nat) : Int) ((upn b (10 ^ k) : Nat) : Int) ∧ CellW k pl (-(b : Int), -(a : Int)) (-((upn b (10 ^ k) : Nat) : Int)) (-((a / 10 ^ k : Nat) : Int)) := by
  have hp : 0 < 10 ^ k := Nat.pow_pos (by decide)
  have f1 : a / 10 ^ k ≤ a := Nat.div_le_self _ _
  have f2 : upn b (10 ^ k) ≤ b := upn_le hp
  have hle : a / 10 ^ k ≤ upn b (10 ^ k) := by rw [upn_eq hp]; exact Nat.div_le_div_right (by omega)
  have l1 : (1000000000000000000000000000000000000000000000000000000000000 : Nat) < 10 ^ 70 := by decide
  have l2 : (1000000000000000000000000000000000000000000000000000000000000 : Nat) < 10 ^ 90 := by decide
  generalize he : a / 10 ^ k = f at *
  generalize hu : upn b (10 ^ k) = c at *
  refine ⟨⟨by simp only; omega, by simp only; omega, by simp only; omega, by rw [← he]; exact fl_n, by rw [← hu]; exact cl_n, by omega, by omega, by omega⟩, ⟨by simp only; omega, by simp only; omega, by simp only; omega, ?_, ?_, by omega, by omega, by omega⟩⟩
  · rw [flI_neg (ten_pos _)]; simp only [cl_n, hu]
  · rw [clI_neg (ten_pos _)]; simp only [fl_n, he]
theorem cellW_shift {k pl : Nat} {a b f c : Nat} (h : CellW k pl (-(b : Int), -(a : Int)) (-(c : Int)) (-(f : Int))) (hp : pl + k ≤ 60) : CellW k pl (tenI (pl + k) - (b : Int), tenI (pl + k) - (a : Int)) (tenI pl - (c : Int)) (tenI pl - (f : Int)) := by
  obtain ⟨b1, b2, le, hf, hc, f9, c9, fc⟩ := h
  have hS : tenI (pl + k) ≤ 10 ^ 60 := ten_le60 hp
  have hS0 := ten_pos (pl + k)
  have hT0 := ten_pos pl
  have hT : tenI pl ≤ 10 ^ 60 := ten_le60 (by omega)
  simp only at b1 b2 le hf hc
  refine ⟨by simp only; omega, by simp only; omega, by simp only; omega, ?_, ?_, by omega, by omega, by omega⟩
  · simp only
    unfold flI at *
    rw [show tenI (pl + k) - (b : Int) = -(b : Int) + tenI (pl + k) by omega, Int.add_mul, Int.add_mul_ediv_left _ _ (by omega), hf]
    omega
  · simp only
    unfold clI at *
    rw [show tenI (pl + k) - (a : Int) = -(a : Int) + tenI (pl + k) by omega, Int.add_mul, Int.add_mul_ediv_left _ _ (by omega), Int.add_mul_emod_self_left]
    split at hc
    · rename_i h0; rw [if_pos h0]; omega
    · rename_i h0; rw [if_neg h0]; omega
def nrB (pl : Nat) (N : Int) (d : Nat) (k : Nat) : Option (Int × Int) := nrP (10 ^ (pl + k)) (pl + k) N d
def PosR (pl n d f c : Nat) : Prop := 0 < n ∧ FindR pl (nrB pl (n : Int) d) (f : Int) (c : Int) ∧ FindR pl (nrB pl (-(n : Int)) d) (tenI pl - c) (tenI pl - f)
theorem nr_half {S H pl n d : Nat} {h : N2} (hn : 0 < n) (hH : S = 2 * H) (hh : hnP S pl n d = some h) : nrP S pl (n : Int) d = some (((H + h.1 : Nat) : Int), ((H + h.2 : Nat) : Int)) ∧ nrP S pl (-(n : Int)) d = some ((S : Int) - ((H + h.2 : Nat) : Int), (S : Int) - ((H + h.1 : Nat) : Int)) := by
  have hof : ofP S 1 2 = (H, H) := by
    unfold ofP
    rw [upn_eq (by decide), Nat.one_mul, hH, Nat.mul_div_cancel_left _ (by decide)]
    congr 1
    omega
  unfold nrP
  constructor
  · rw [show ((n : Int)).natAbs = n from rfl, hh, Option.map_some, if_neg (by omega), hof]; rfl
  · rw [show (-(n : Int)).natAbs = n by omega, hh, Option.map_some, if_pos (by omega), hof]
    unfold miP
    simp only []
    rw [show (H : Int) - (h.2 : Int) = (S : Int) - ((H + h.2 : Nat) : Int) by omega, show (H : Int) - (h.1 : Int) = (S : Int) - ((H + h.1 : Nat) : Int) by omega]
theorem round_half {k pl H n d : Nat} {h : N2} (hn : 0 < n) (hp : pl + k ≤ 60) (hH : 10 ^ (pl + k) = 2 * H) (hh : hnP (10 ^ (pl + k)) (pl + k) n d = some h) (h1 : H + h.1 ≤ H + h.2) (h2 : H + h.2 ≤ 1000000000000000000000000000000000000000000000000000000000000) :
    ∃ r s, nrB pl (n : Int) d k = some r ∧ CellW k pl r (((H + h.1) / 10 ^ k : Nat) : Int) ((upn (H + h.2) (10 ^ k) : Nat) : Int) ∧ nrB pl (-(n : Int)) d k = some s ∧ CellW k pl s (tenI pl - ((upn (H + h.2) (10 ^ k) : Nat) : Int)) (tenI pl - (((H + h.1) / 10 ^ k : Nat) : Int)) := by
  obtain ⟨e1, e2⟩ := nr_half hn hH hh
  obtain ⟨c1, c2⟩ := cellW_ok k pl h1 h2
  refine ⟨_, _, e1, c1, e2, ?_⟩
  have e : ((10 ^ (pl + k) : Nat) : Int) = tenI (pl + k) := rfl
  rw [e]
  exact cellW_shift c2 hp
def nmCk (S S1 H c1 c2 : Nat) (n d : Nat) (K : Nat → Nat → Bool) : Bool := hnK S S1 c1 c2 (fun r1 r2 => fz (Nat.add H r1) fun a => fz (Nat.add H r2) fun b => cellK 1000000000000000 a b K) n d
theorem nmCk_ok {S S1 H pl n d : Nat} {c : N2} {K : Nat → Nat → Bool} (hp : pl ≤ 12) (hS : S = 10 ^ (pl + 15)) (h1 : S1 = S - 1) (hH : S = 2 * H) (hc : rootP S (byP (piN (pl + 15), piN (pl + 15) + 1) 2 1) = some c) (hcb : bdB c = true) (hn : 0 < n) (hd : 0 < d) (hk : nmCk S S1 H c.1 c.2 n d K = true) : ∃ f g, PosR pl n d f g ∧ K f g = true := by
  have hS0 : 0 < S := by rw [hS]; exact Nat.pow_pos (by decide)
  obtain ⟨h, hh, hq⟩ := hnK_ok hS0 h1 hc hcb hd hk
  clear hk
  have hk := hq
  clear hq
  rw [fz_eq, fz_eq] at hk
  unfold cellK at hk
  rcases cond_t hk with ⟨h2, hk⟩ | ⟨_, hk⟩
  · simp only [Bool.and_eq_true, Nat.ble_eq] at h2
    obtain ⟨h2, h3⟩ := h2
    simp only [fz_eq] at hk
    rcases cond_t hk with ⟨h4, hk⟩ | ⟨_, hk⟩
    · rw [Nat.ble_eq] at h4
      subst hS
      obtain ⟨r, s, e1, w1, e2, w2⟩ := round_half (k := 15) hn (by omega) hH hh h2 h3
      have e3 : Nat.div (Nat.add H h.1) 1000000000000000 = (H + h.1) / 10 ^ 15 := rfl
      have e4 : Nat.div (Nat.add (Nat.add H h.2) (Nat.pred 1000000000000000)) 1000000000000000 = upn (H + h.2) (10 ^ 15) := by rw [upn_eq (by decide)]; rfl
      rw [e3, e4] at hk h4
      refine ⟨(H + h.1) / 10 ^ 15, upn (H + h.2) (10 ^ 15), ⟨hn, ⟨by omega, Or.inl ⟨r, e1, w1⟩⟩, ⟨by omega, Or.inl ⟨s, e2, w2⟩⟩⟩, hk⟩
    · cases hk
  · cases hk
theorem p40 : (10 : Nat) ^ 40 = 10000000000000000000000000000000000000000 := by decide +kernel
def nmCk2 (S S1 H c1 c2 S' S1' H' c1' c2' : Nat) (n d : Nat) (K : Nat → Nat → Bool) : Bool := hnK S S1 c1 c2 (fun r1 r2 => fz (Nat.add H r1) fun a => fz (Nat.add H r2) fun b =>
  cond (and (Nat.ble a b) (Nat.ble b 1000000000000000000000000000000000000000000000000000000000000)) (fz (Nat.div a 1000000000000000) fun f => fz (Nat.div (Nat.add b (Nat.pred 1000000000000000)) 1000000000000000) fun c => cond (Nat.ble c (Nat.succ f)) (K f c)
    (hnK S' S1' c1' c2' (fun r1 r2 => fz (Nat.add H' r1) fun a => fz (Nat.add H' r2) fun b => cellK 10000000000000000000000000000000000000000 a b K) n d)) false) n d
theorem nmCk2_ok {S S1 H S' S1' H' pl n d : Nat} {c c' : N2} {K : Nat → Nat → Bool} (hp : pl ≤ 12) (hS : S = 10 ^ (pl + 15)) (h1 : S1 = S - 1) (hH : S = 2 * H) (hc : rootP S (byP (piN (pl + 15), piN (pl + 15) + 1) 2 1) = some c) (hcb : bdB c = true)
    (hS' : S' = 10 ^ (pl + 40)) (h1' : S1' = S' - 1) (hH' : S' = 2 * H') (hc' : rootP S' (byP (piN (pl + 40), piN (pl + 40) + 1) 2 1) = some c') (hcb' : bdB c' = true) (hn : 0 < n) (hd : 0 < d) (hk : nmCk2 S S1 H c.1 c.2 S' S1' H' c'.1 c'.2 n d K = true) : ∃ f g, PosR pl n d f g ∧ K f g = true := by
  have hS0 : 0 < S := by rw [hS]; exact Nat.pow_pos (by decide)
  have hS0' : 0 < S' := by rw [hS']; exact Nat.pow_pos (by decide)
  obtain ⟨h, hh, hq⟩ := hnK_ok hS0 h1 hc hcb hd hk
  clear hk
  have hk := hq
  clear hq
  rw [fz_eq, fz_eq] at hk
  rcases cond_t hk with ⟨h2, hk⟩ | ⟨_, hk⟩
  · simp only [Bool.and_eq_true, Nat.ble_eq] at h2
    obtain ⟨h2, h3⟩ := h2
    simp only [fz_eq] at hk
    subst hS
    obtain ⟨r, s, e1, w1, e2, w2⟩ := round_half (k := 15) hn (by omega) hH hh h2 h3
    have e3 : Nat.div (Nat.add H h.1) 1000000000000000 = (H + h.1) / 10 ^ 15 := rfl
    have e4 : Nat.div (Nat.add (Nat.add H h.2) (Nat.pred 1000000000000000)) 1000000000000000 = upn (H + h.2) (10 ^ 15) := by rw [upn_eq (by decide)]; rfl
    rw [e3, e4] at hk
    rcases cond_t hk with ⟨h4, hk⟩ | ⟨h4, hk⟩
    · rw [Nat.ble_eq] at h4
      refine ⟨(H + h.1) / 10 ^ 15, upn (H + h.2) (10 ^ 15), ⟨hn, ⟨by omega, Or.inl ⟨r, e1, w1⟩⟩, ⟨by omega, Or.inl ⟨s, e2, w2⟩⟩⟩, hk⟩
    · have h5 : (H + h.1) / 10 ^ 15 + 1 < upn (H + h.2) (10 ^ 15) := by
        rcases Nat.lt_or_ge ((H + h.1) / 10 ^ 15 + 1) (upn (H + h.2) (10 ^ 15)) with x | x
        · exact x
        · rw [show Nat.ble (upn (H + h.2) (10 ^ 15)) (Nat.succ ((H + h.1) / 10 ^ 15)) = true from Nat.ble_eq_true_of_le x] at h4; cases h4
      obtain ⟨h', hh', hk⟩ := hnK_ok hS0' h1' hc' hcb' hd hk
      unfold cellK at hk
      rcases cond_t hk with ⟨h6, hk⟩ | ⟨_, hk⟩
      · simp only [Bool.and_eq_true, Nat.ble_eq] at h6
        obtain ⟨h6, h7⟩ := h6
        simp only [fz_eq] at hk
        rcases cond_t hk with ⟨h8, hk⟩ | ⟨_, hk⟩
        · rw [Nat.ble_eq] at h8
          have hH2 : 10 ^ (pl + 40) = 2 * H' := by rw [← hS']; exact hH'
          have hh2 : hnP (10 ^ (pl + 40)) (pl + 40) n d = some h' := by rw [← hS']; exact hh'
          obtain ⟨r', s', e1', w1', e2', w2'⟩ := round_half (k := 40) hn (by omega) hH2 hh2 h6 h7
          have e5 : Nat.div (Nat.add H' h'.1) 10000000000000000000000000000000000000000 = (H' + h'.1) / 10 ^ 40 := by rw [p40]; rfl
          have e6 : Nat.div (Nat.add (Nat.add H' h'.2) (Nat.pred 10000000000000000000000000000000000000000)) 10000000000000000000000000000000000000000 = upn (H' + h'.2) (10 ^ 40) := by rw [p40, upn_eq (by decide)]; rfl
          rw [e5, e6] at hk h8
          refine ⟨(H' + h'.1) / 10 ^ 40, upn (H' + h'.2) (10 ^ 40), ⟨hn, ⟨by omega, Or.inr ⟨r, r', _, _, e1, w1, by omega, e1', w1'⟩⟩, ⟨by omega, Or.inr ⟨s, s', _, _, e2, w2, by omega, e2', w2'⟩⟩⟩, hk⟩
        · cases hk
      · cases hk
  · cases hk
def TabR (pl : Nat) : Prop := ∃ t : FSt, Seg (PosR pl) ⟨1, 50, 1, 49, 10 ^ pl / 2, 10 ^ pl / 2⟩ t ∧ t.a = 8 * t.b ∧ 0 < t.b ∧ t.lf + 1 ≤ 10 ^ pl ∧ t.lc ≤ 10 ^ pl
end Go.Proofs.YteojhdahhaodoaaGreatDoor
namespace Go.Proofs.YteojhdahhaodoaaGreatDoor
open Go Go.Eng Go.RowKit
theorem red_ng {a b : Nat} (hb : 0 < b) : redN (-(a : Int)) (b : Int) = -((a / Nat.gcd a b : Nat) : Int) ∧ redD (-(a : Int)) (b : Int) = ((b / Nat.gcd a b : Nat) : Int) := by
  have hg : (Int.gcd (-(a : Int)) (b : Int)) = Nat.gcd a b := by rw [Int.neg_gcd]; rfl
  unfold redN redD
  rw [if_neg (by omega), if_neg (by omega), hg]
  refine ⟨?_, rfl⟩
  rw [Int.neg_ediv_of_dvd (Int.natCast_dvd_natCast.2 (Nat.gcd_dvd_left a b))]; rfl
theorem ofp_k (a : Nat) : ofP (10 ^ 15) a 1000 = (a * 1000000000000, a * 1000000000000) := by
  have e : a * 10 ^ 15 = a * 1000000000000 * 1000 := by omega
  unfold ofP
  rw [upn_eq (by decide), e, Nat.mul_div_cancel _ (by decide)]
  congr 1
  omega
def unK (c1 c2 p n d : Nat) (ng : Bool) (K : Bool → Bool) : Bool := hnK 1000000000000000 999999999999999 c1 c2 (fun r1 r2 => cond ng
  (cond (Nat.ble 500000000000001 (Nat.add p r1)) (K true) (cond (Nat.ble (Nat.succ (Nat.add p r2)) 500000000000000) (K false) false))
  (cond (Nat.ble (Nat.succ (Nat.add 500000000000000 r2)) p) (K true) (cond (Nat.ble (Nat.succ p) (Nat.add 500000000000000 r1)) (K false) false))) n d
theorem nr_pos0 {S H pl n d : Nat} {h : N2} (hH : S = 2 * H) (hh : hnP S pl n d = some h) : nrP S pl (n : Int) d = some (((H + h.1 : Nat) : Int), ((H + h.2 : Nat) : Int)) := by
  have hof : ofP S 1 2 = (H, H) := by
    unfold ofP
    rw [upn_eq (by decide), Nat.one_mul, hH, Nat.mul_div_cancel_left _ (by decide)]
    congr 1
    omega
  unfold nrP
  rw [show ((n : Int)).natAbs = n from rfl, hh, Option.map_some, if_neg (by omega), hof]; rfl
theorem s15 : (10 : Nat) ^ 15 = 1000000000000000 := by decide
theorem ble_f {a b : Nat} (h : Nat.ble a b = false) : ¬ a ≤ b := fun hc => by rw [Nat.ble_eq_true_of_le hc] at h; cases h
theorem unK_ok {n d a : Nat} {c : N2} {ng : Bool} {K : Bool → Bool} (hc : rootP 1000000000000000 (byP (piN 15, piN 15 + 1) 2 1) = some c) (hcb : bdB c = true) (hd : 0 < d) (hn : ng = true → 0 < n) (hk : unK c.1 c.2 (a * 1000000000000) n d ng K = true) :
    ∃ u, undP (cond ng (-(n : Int)) (n : Int)) d a 1000 = some u ∧ K u = true := by
  unfold unK at hk
  obtain ⟨h, hh, hq⟩ := hnK_ok (by decide) (by decide) hc hcb hd hk
  rw [← s15] at hh
  have hH : (10 : Nat) ^ 15 = 2 * 500000000000000 := by decide
  unfold undP
  rw [ofp_k]
  cases ng with
  | true =>
    have hn0 := hn rfl
    obtain ⟨_, hq⟩ | ⟨hx, _⟩ := cond_t hq
    case inr => cases hx
    show ∃ u, ((nrP (10 ^ 15) 15 (-(n : Int)) d).bind _) = _ ∧ _
    rw [(nr_half hn0 hH hh).2, Option.bind_some]
    have eS : ((10 ^ 15 : Nat) : Int) = 1000000000000000 := by decide
    simp only [eS]
    rcases cond_t hq with ⟨h1, hq⟩ | ⟨h1, hq⟩
    · rw [Nat.ble_eq] at h1
      refine ⟨true, ?_, hq⟩
      have h1' : 500000000000001 ≤ a * 1000000000000 + h.1 := h1
      rw [if_pos (by omega)]
    · have h1' : ¬ 500000000000001 ≤ a * 1000000000000 + h.1 := ble_f h1
      rcases cond_t hq with ⟨h2, hq⟩ | ⟨_, hq⟩
      · rw [Nat.ble_eq] at h2
        have h2' : a * 1000000000000 + h.2 + 1 ≤ 500000000000000 := h2
        refine ⟨false, ?_, hq⟩
        rw [if_neg (by omega), if_pos (by omega)]
      · cases hq
  | false =>
    obtain ⟨hx, _⟩ | ⟨_, hq⟩ := cond_t hq
    case inl => cases hx
    show ∃ u, ((nrP (10 ^ 15) 15 (n : Int) d).bind _) = _ ∧ _
    rw [nr_pos0 hH hh, Option.bind_some]
    simp only []
    rcases cond_t hq with ⟨h1, hq⟩ | ⟨h1, hq⟩
    · rw [Nat.ble_eq] at h1
      have h1' : 500000000000000 + h.2 + 1 ≤ a * 1000000000000 := h1
      exact ⟨true, by rw [if_pos (by omega)], hq⟩
    · have h1' : ¬ 500000000000000 + h.2 + 1 ≤ a * 1000000000000 := ble_f h1
      rcases cond_t hq with ⟨h2, hq⟩ | ⟨_, hq⟩
      · rw [Nat.ble_eq] at h2
        have h2' : a * 1000000000000 + 1 ≤ 500000000000000 + h.1 := h2
        exact ⟨false, by rw [if_neg (by omega), if_pos (by omega)], hq⟩
      · cases hq
def qtK (one five c1 c2 p : Nat) (K : Nat → Nat → Bool) (f : Nat) : Nat → Nat → Bool :=
  Nat.rec (motive := fun _ => Nat → Nat → Bool) (fun _ _ => false) (fun _ ih lo hi => cond (Nat.ble hi (Nat.succ lo)) (K lo hi)
    (fz (Nat.div (Nat.add lo hi) 2) fun m => cond (Nat.ble five m)
      (fz (Nat.sub m five) fun n0 => fz (Nat.gcd n0 one) fun g => fz (Nat.div n0 g) fun n => fz (Nat.div one g) fun d => unK c1 c2 p n d false fun u => cond u (ih m hi) (ih lo m))
      (fz (Nat.sub five m) fun n0 => fz (Nat.gcd n0 one) fun g => fz (Nat.div n0 g) fun n => fz (Nat.div one g) fun d => unK c1 c2 p n d true fun u => cond u (ih m hi) (ih lo m)))) f
theorem qtK_ok {one five a : Nat} {c : N2} {K : Nat → Nat → Bool} (h1 : 0 < one) (hc : rootP 1000000000000000 (byP (piN 15, piN 15 + 1) 2 1) = some c) (hcb : bdB c = true) : ∀ {f F lo hi : Nat}, f ≤ F → qtK one five c.1 c.2 (a * 1000000000000) K f lo hi = true →
    ∃ l h : Nat, qnF (one : Int) a 1000 F ((lo : Int) - five) ((hi : Int) - five) = some ((l : Int) - five, (h : Int) - five) ∧ K l h = true
  | 0, _, _, _, _, hk => by cases hk
  | f + 1, F, lo, hi, hF, hk => by
    obtain ⟨G, rfl⟩ : ∃ G, F = G + 1 := ⟨F - 1, by omega⟩
    have hk : cond (Nat.ble hi (Nat.succ lo)) (K lo hi)
      (fz (Nat.div (Nat.add lo hi) 2) fun m => cond (Nat.ble five m)
      (fz (Nat.sub m five) fun n0 => fz (Nat.gcd n0 one) fun g => fz (Nat.div n0 g) fun n => fz (Nat.div one g) fun d => unK c.1 c.2 (a * 1000000000000) n d false fun u => cond u (qtK one five c.1 c.2 (a * 1000000000000) K f m hi) (qtK one five c.1 c.2 (a * 1000000000000) K f lo m))
      (fz (Nat.sub five m) fun n0 => fz (Nat.gcd n0 one) fun g => fz (Nat.div n0 g) fun n => fz (Nat.div one g) fun d => unK c.1 c.2 (a * 1000000000000) n d true fun u => cond u (qtK one five c.1 c.2 (a * 1000000000000) K f m hi) (qtK one five c.1 c.2 (a * 1000000000000) K f lo m))) = true := hk
    unfold qnF
    rcases cond_t hk with ⟨hb, hk⟩ | ⟨hb, hk⟩
    · have hb' : hi ≤ lo + 1 := by simpa using hb
      rw [if_neg (by omega)]; exact ⟨lo, hi, rfl, hk⟩
    · have hb' : ¬ hi ≤ lo + 1 := ble_f hb
      rw [if_pos (by omega)]
      rw [fz_eq] at hk
      have em : ((lo : Int) - five + ((hi : Int) - five)) / 2 = (((lo + hi) / 2 : Nat) : Int) - five := by omega
      have em' : Nat.div (Nat.add lo hi) 2 = (lo + hi) / 2 := rfl
      rw [em]
      rw [em'] at hk
      generalize hm : (lo + hi) / 2 = m at *
      have key : ∀ u, undM ((m : Int) - five) one a 1000 = some u → cond u (qtK one five c.1 c.2 (a * 1000000000000) K f m hi) (qtK one five c.1 c.2 (a * 1000000000000) K f lo m) = true →
          ∃ l h : Nat, ((undM ((m : Int) - five) one a 1000).bind fun u => if u = true then qnF (one : Int) a 1000 G ((m : Int) - five) ((hi : Int) - five) else qnF (one : Int) a 1000 G ((lo : Int) - five) ((m : Int) - five)) = some ((l : Int) - five, (h : Int) - five) ∧ K l h = true := by
        intro u hu hr
        rw [hu, Option.bind_some]
        cases u with
        | true => rw [if_pos rfl]; exact qtK_ok h1 hc hcb (by omega) hr
        | false => rw [if_neg (by decide)]; exact qtK_ok h1 hc hcb (by omega) hr
      have hgp : ∀ n0, 0 < Nat.gcd n0 one := fun n0 => Nat.gcd_pos_of_pos_right _ h1
      rcases cond_t hk with ⟨h5, hk⟩ | ⟨h5, hk⟩
      · rw [Nat.ble_eq] at h5
        simp only [fz_eq] at hk
        obtain ⟨u, hu, hr⟩ := unK_ok hc hcb (Nat.div_pos (Nat.le_of_dvd h1 (Nat.gcd_dvd_right _ _)) (hgp _)) (fun h => by cases h) hk
        refine key u ?_ hr
        unfold undM
        obtain ⟨r1, r2⟩ := red_nat (a := m - five) (b := one) h1
        rw [show (m : Int) - five = ((m - five : Nat) : Int) by omega, r1, r2, Int.toNat_natCast]
        exact hu
      · have h5' : ¬ five ≤ m := ble_f h5
        simp only [fz_eq] at hk
        obtain ⟨u, hu, hr⟩ := unK_ok hc hcb (Nat.div_pos (Nat.le_of_dvd h1 (Nat.gcd_dvd_right _ _)) (hgp _)) (fun _ => Nat.div_pos (Nat.le_of_dvd (by show 0 < five - m; omega) (Nat.gcd_dvd_left _ _)) (hgp _)) hk
        refine key u ?_ hr
        unfold undM
        obtain ⟨r1, r2⟩ := red_ng (a := five - m) (b := one) h1
        rw [show (m : Int) - five = -((five - m : Nat) : Int) by omega, r1, r2, Int.toNat_natCast]
        exact hu
def ndCk (one five c1 c2 m : Nat) (K : Nat → Nat → Bool) : Bool := cond (Nat.beq m five) (K 5000000000 5000000000) (cond (Nat.ble five m)
  (fz (Nat.sub m five) fun n0 => fz (Nat.gcd n0 one) fun g => fz (Nat.div n0 g) fun n => fz (Nat.div one g) fun d => nmCk 10000000000000000000000000 9999999999999999999999999 5000000000000000000000000 c1 c2 n d K)
  (fz (Nat.sub five m) fun n0 => fz (Nat.gcd n0 one) fun g => fz (Nat.div n0 g) fun n => fz (Nat.div one g) fun d => nmCk 10000000000000000000000000 9999999999999999999999999 5000000000000000000000000 c1 c2 n d (fun f c => cond (and (Nat.ble f 10000000000) (Nat.ble c 10000000000)) (K (Nat.sub 10000000000 c) (Nat.sub 10000000000 f)) false)))
theorem s25b : (10000000000000000000000000 : Nat) = 10 ^ (10 + 15) := by decide
theorem find_bd {pl : Nat} {bd : Nat → Option (Int × Int)} {f c : Int} (h : FindR pl bd f c) : f.natAbs < 10 ^ 70 ∧ c.natAbs < 10 ^ 70 := by
  obtain ⟨_, ⟨r, _, w⟩ | ⟨r, r2, f1, c1, _, _, _, _, w⟩⟩ := h
  · exact ⟨w.f9, w.c9⟩
  · exact ⟨w.f9, w.c9⟩
theorem ndCk_ok {one five m : Nat} {c : N2} {K : Nat → Nat → Bool} (h1 : 0 < one) (h100 : one ≤ 100) (h5 : five = 5 * one) (hm : m ≤ 2 * five) (hc : rootP 10000000000000000000000000 (byP (piN (10 + 15), piN (10 + 15) + 1) 2 1) = some c) (hcb : bdB c = true) (hk : ndCk one five c.1 c.2 m K = true) :
    ∃ f g : Nat, NrmC ((m : Int) - five) (one : Int) 10 f g ∧ (f : Int).natAbs < 10 ^ 70 ∧ (g : Int).natAbs < 10 ^ 70 ∧ K f g = true := by
  have hgp : ∀ n0, 0 < Nat.gcd n0 one := fun n0 => Nat.gcd_pos_of_pos_right _ h1
  have hdp : ∀ n0, 0 < one / Nat.gcd n0 one := fun n0 => Nat.div_pos (Nat.le_of_dvd h1 (Nat.gcd_dvd_right _ _)) (hgp _)
  unfold ndCk at hk
  rcases cond_t hk with ⟨h2, hk⟩ | ⟨h2, hk⟩
  · have h2 := Nat.eq_of_beq_eq_true h2
    refine ⟨5000000000, 5000000000, fun w ht => ?_, by decide, by decide, hk⟩
    exact normal_z (by omega) (by omega) (by omega) (by decide) ht
  · have h2' : m ≠ five := fun h => by rw [h, show Nat.beq five five = true from Nat.beq_refl five] at h2; cases h2
    rcases cond_t hk with ⟨h3, hk⟩ | ⟨h3, hk⟩
    · rw [Nat.ble_eq] at h3
      simp only [fz_eq] at hk
      obtain ⟨f, g, ⟨hn, hF, _⟩, hK⟩ := nmCk_ok (pl := 10) (by decide) s25b (by decide) (by decide) hc hcb (Nat.div_pos (Nat.le_of_dvd (by show 0 < m - five; omega) (Nat.gcd_dvd_left _ _)) (hgp _)) (hdp _) hk
      obtain ⟨r1, r2⟩ := red_nat (a := m - five) (b := one) h1
      have e : nrmBd 10 ((m : Int) - five) one = nrB 10 ((Nat.div (Nat.sub m five) (Nat.gcd (Nat.sub m five) one) : Nat) : Int) (Nat.div one (Nat.gcd (Nat.sub m five) one)) := by
        funext k
        unfold nrmBd
        rw [show (m : Int) - five = ((m - five : Nat) : Int) by omega, r1, r2, Int.toNat_natCast]; rfl
      refine ⟨f, g, fun w ht => normal_q (by omega) (by omega) (by omega) (by omega) (by omega) (by omega) (by decide) (by rw [e]; exact hF) ht, (find_bd hF).1, (find_bd hF).2, hK⟩
    · have h3' : ¬ five ≤ m := ble_f h3
      simp only [fz_eq] at hk
      obtain ⟨f, g, ⟨hn, _, hF⟩, hK⟩ := nmCk_ok (pl := 10) (by decide) s25b (by decide) (by decide) hc hcb (Nat.div_pos (Nat.le_of_dvd (by show 0 < five - m; omega) (Nat.gcd_dvd_left _ _)) (hgp _)) (hdp _) hk
      rcases cond_t hK with ⟨h4, hK⟩ | ⟨_, hK⟩
      · simp only [Bool.and_eq_true, Nat.ble_eq] at h4
        obtain ⟨r1, r2⟩ := red_ng (a := five - m) (b := one) h1
        have e : nrmBd 10 ((m : Int) - five) one = nrB 10 (-((Nat.div (Nat.sub five m) (Nat.gcd (Nat.sub five m) one) : Nat) : Int)) (Nat.div one (Nat.gcd (Nat.sub five m) one)) := by
          funext k
          unfold nrmBd
          rw [show (m : Int) - five = -((five - m : Nat) : Int) by omega, r1, r2, Int.toNat_natCast]; rfl
        have eT : tenI 10 = 10000000000 := by decide
        rw [eT] at hF
        have e1 : (10000000000 : Int) - g = ((Nat.sub 10000000000 g : Nat) : Int) := by show _ = ((10000000000 - g : Nat) : Int); omega
        have e2 : (10000000000 : Int) - f = ((Nat.sub 10000000000 f : Nat) : Int) := by show _ = ((10000000000 - f : Nat) : Int); omega
        rw [e1, e2] at hF
        exact ⟨_, _, fun w ht => normal_q (by omega) (by omega) (by omega) (by omega) (by omega) (by omega) (by decide) (by rw [e]; exact hF) ht, (find_bd hF).1, (find_bd hF).2, hK⟩
      · cases hK
def qtCk (one five ten c1 c2 d1 d2 M : Nat) : Bool := fz (Nat.mul M 1000000000000) fun p => fz (Nat.mul (Nat.sub 1000 M) 1000000000000) fun q => fz (Nat.mul M 10000000000) fun s =>
  qtK one five c1 c2 p (fun lo hi => cond (and (Nat.beq hi (Nat.succ lo)) (Nat.ble hi ten)) (qtK one five c1 c2 q (fun l h => cond (and (Nat.beq (Nat.add l hi) ten) (Nat.beq (Nat.add h lo) ten))
    (ndCk one five d1 d2 lo fun u _ => cond (Nat.ble (Nat.mul u 1000) s) (ndCk one five d1 d2 hi fun _ v => Nat.ble s (Nat.mul v 1000)) false) false) 40 0 ten) false) 40 0 ten
def QtR (one M : Nat) : Prop := ∃ (f : Int) (u v s t : Nat), qnF (one : Int) M 1000 100 (-5 * (one : Int)) (5 * (one : Int)) = some (f, f + 1) ∧ qnF (one : Int) (1000 - M) 1000 100 (-5 * (one : Int)) (5 * (one : Int)) = some (-(f + 1), -f) ∧ f.natAbs ≤ 500 ∧
  NrmC f (one : Int) 10 u v ∧ NrmC (f + 1) (one : Int) 10 s t ∧ (u : Int).natAbs < 10 ^ 70 ∧ (t : Int).natAbs < 10 ^ 70 ∧ (u : Int) * 1000 ≤ M * 10000000000 ∧ (M : Int) * 10000000000 ≤ t * 1000
theorem qtCk_ok {one five ten M : Nat} {c d : N2} (h1 : 0 < one) (h100 : one ≤ 100) (h5 : five = 5 * one) (h10 : ten = 10 * one) (hc : rootP 1000000000000000 (byP (piN 15, piN 15 + 1) 2 1) = some c) (hcb : bdB c = true) (hd : rootP 10000000000000000000000000 (byP (piN (10 + 15), piN (10 + 15) + 1) 2 1) = some d) (hdb : bdB d = true)
    (hk : qtCk one five ten c.1 c.2 d.1 d.2 M = true) : QtR one M := by
  unfold qtCk at hk
  rw [fz_eq, fz_eq, fz_eq] at hk
  obtain ⟨lo, hi, q1, hk⟩ := qtK_ok h1 hc hcb (F := 100) (by decide) hk
  rcases cond_t hk with ⟨h2, hk⟩ | ⟨_, hk⟩
  · simp only [Bool.and_eq_true, Nat.ble_eq] at h2
    obtain ⟨h2, h2'⟩ := h2
    have h2 := Nat.eq_of_beq_eq_true h2
    subst h2
    obtain ⟨l, h, q2, hk⟩ := qtK_ok h1 hc hcb (F := 100) (by decide) hk
    rcases cond_t hk with ⟨h3, hk⟩ | ⟨_, hk⟩
    · simp only [Bool.and_eq_true] at h3
      obtain ⟨h3, h4⟩ := h3
      have h3' : l + (lo + 1) = ten := Nat.eq_of_beq_eq_true h3
      have h4' : h + lo = ten := Nat.eq_of_beq_eq_true h4
      obtain ⟨u, v, n1, b1, _, hk⟩ := ndCk_ok h1 h100 h5 (by omega) hd hdb hk
      rcases cond_t hk with ⟨h6, hk⟩ | ⟨_, hk⟩
      · obtain ⟨s, t, n2, _, b2, hk⟩ := ndCk_ok h1 h100 h5 (by omega) hd hdb hk
        rw [Nat.ble_eq] at h6 hk
        have h6' : u * 1000 ≤ M * 10000000000 := h6
        have h7' : M * 10000000000 ≤ t * 1000 := hk
        have e8 : ((Nat.succ lo : Nat) : Int) - (five : Int) = (lo : Int) - five + 1 := by rw [Nat.succ_eq_add_one]; omega
        refine ⟨(lo : Int) - five, u, v, s, t, ?_, ?_, by omega, n1, ?_, b1, b2, by omega, by omega⟩
        · rw [show -5 * (one : Int) = ((0 : Nat) : Int) - five by omega, show 5 * (one : Int) = (ten : Int) - five by omega, q1, e8]
        · have q3 : qnF (one : Int) (1000 - M) 1000 100 (((0 : Nat) : Int) - five) ((ten : Int) - five) = some ((l : Int) - five, (h : Int) - five) := q2
          rw [show -5 * (one : Int) = ((0 : Nat) : Int) - five by omega, show 5 * (one : Int) = (ten : Int) - five by omega, q3, show (l : Int) - five = -((lo : Int) - five + 1) by omega, show (h : Int) - five = -((lo : Int) - five) by omega]
        · rw [← e8]; exact n2
      · cases hk
    · cases hk
  · cases hk
def qtRows (one five ten c1 c2 d1 d2 lo n : Nat) : Bool := allN (fun i => fz (Nat.add lo i) fun M => cond (Nat.beq M 500) true (qtCk one five ten c1 c2 d1 d2 M)) n
theorem qtRows_ok {one five ten lo n M : Nat} {c d : N2} (h1 : 0 < one) (h100 : one ≤ 100) (h5 : five = 5 * one) (h10 : ten = 10 * one) (hc : rootP 1000000000000000 (byP (piN 15, piN 15 + 1) 2 1) = some c) (hcb : bdB c = true) (hd : rootP 10000000000000000000000000 (byP (piN (10 + 15), piN (10 + 15) + 1) 2 1) = some d) (hdb : bdB d = true)
    (h : qtRows one five ten c.1 c.2 d.1 d.2 lo n = true) (hl : lo < M) (hh : M ≤ lo + n) (h500 : M ≠ 500) : QtR one M := by
  unfold qtRows at h
  have h2 := allN_ok h (M - lo) (by omega) (by omega)
  rw [fz_eq, show Nat.add lo (M - lo) = M from by show lo + (M - lo) = M; omega] at h2
  rcases cond_t h2 with ⟨h3, _⟩ | ⟨_, h3⟩
  · exact absurd (Nat.eq_of_beq_eq_true h3) h500
  · exact qtCk_ok h1 h100 h5 h10 hc hcb hd hdb h3
end Go.Proofs.YteojhdahhaodoaaGreatDoor
