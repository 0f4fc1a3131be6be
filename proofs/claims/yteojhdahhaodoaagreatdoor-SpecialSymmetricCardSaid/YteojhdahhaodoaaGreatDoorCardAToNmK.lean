/- Part of the proof of a statement about the special functions. -/
import Derived.Test.YteojhdahhaodoaaGreatDoorLaw3
import Derived.Test.YteojhdahhaodoaaGreatDoorTie
import Derived.Test.YteojhdahhaodoaaGreatDoorCards
import Derived.ProofKit
import Derived.OpenShut
import Derived.LaidMore
import Derived.Lay
import Derived.SevenTiedAt
import Derived.Stop.Joined
import Derived.Deep.SlicePairs
import Derived.Deep.Frames
import Derived.Deep.Onto
import Derived.WideKeyArgs
import Derived.SizedLaws
import Derived.Test.YteojhdahhaodoaaGreatDoorEngGToInt1
import Derived.Test.YteojhdahhaodoaaGreatDoorSp9ToSp14
import Derived.Test.YteojhdahhaodoaaGreatDoorSpMToLaw2
set_option linter.all false
namespace Go.Proofs.YteojhdahhaodoaaGreatDoor
open Go Go.ChangeShapes Go.WideShapes Go.ChangeAt Go.RowKit Go.Deep Go.Eng
theorem cOwn : ownKnob Tryz.prog.godebug = none := by kernel_rfl
theorem cLaid : laidOutB Tryz.prog = true := by kernel_rfl
theorem c3 : Tryz.prog.cellsOf 3 = 1 := by kernel_rfl
theorem c88 : Tryz.prog.cellsOf 22 = 2 := by kernel_rfl
theorem add_cell {W : World} {b o i : Nat} : W.cell? ((⟨b, o, none⟩ : Addr).add i) = W.cell? ⟨b, o + i, none⟩ := by unfold Addr.add; split <;> simp_all
theorem gPow : Tryz.prog.globalNamed "internal/strconv.uint64pow10" = some 4 := by kernel_rfl
theorem tPow : (Tryz.prog.globals[4]?).map (·.type) = some 206 := by kernel_rfl
theorem zPow0 : (((begin Tryz.prog (fun _ _ => 0) default).world.heap[4]?).bind Obj.row?).map (·.2) = some 206 := by kernel_rfl
theorem zPow : ∃ z, (((begin Tryz.prog (fun _ _ => 0) default).world.heap[4]?).bind Obj.row?) = some (z, 206) := by
  obtain ⟨⟨z, t⟩, h, e⟩ := Option.map_eq_some_iff.1 zPow0
  cases e; exact ⟨z, h⟩
theorem nPow : 4 < Tryz.prog.globals.size := of_decide_eq_true (by kernel_rfl)
theorem lPow : Rows.laid_internal_strconv_uint64pow10 = (.agg (Lib.pow10Tab.map fun z => DataW.lit (.int .u64 z)) : DataW Unit) := by kernel_rfl
theorem cU : Tryz.prog.cellsOf 157 = 1 := by kernel_rfl
theorem uU : Tryz.prog.underlying 157 = some (.int .u64) := by kernel_rfl
theorem cA : Tryz.prog.cellsOf 206 = 20 := by kernel_rfl
theorem kPow : Lib.pow10Tab.length = 20 := by kernel_rfl
theorem trod_cons {H : Type} {enc : TypeId × Value → H} {P : Program} {w : World} {base : Nat} {sp : Nat → Bool} {hd : Bool} {t : TypeId} {ts : List TypeId} {vs : List Value} {ds : List (DataW H)} {ps : List MemPlace}
    (h : DataW.TrodAll enc P w base sp hd (t :: ts) vs ds ps) : ∃ v vs' d ds' p q, vs = v :: vs' ∧ ds = d :: ds' ∧ DataW.Trod enc P w base sp hd t v d p ∧ DataW.TrodAll enc P w base sp hd ts vs' ds' q := by
  match vs, ds, h with
  | v :: vs', d :: ds', h =>
    obtain ⟨p, q, h1, h2, _⟩ := h
    exact ⟨v, vs', d, ds', p, q, rfl, rfl, h1, h2⟩
theorem trod_end {H : Type} {enc : TypeId × Value → H} {P : Program} {w : World} {base : Nat} {sp : Nat → Bool} {hd : Bool} {vs : List Value} {ds : List (DataW H)} {ps : List MemPlace}
    (h : DataW.TrodAll enc P w base sp hd [] vs ds ps) : vs = [] ∧ ds = [] := by
  match vs, ds, h with
  | [], [], _ => exact ⟨rfl, rfl⟩
theorem all_again {H : Type} {enc : TypeId × Value → H} {W W' : World} {sp' : Nat → Bool} (k : Ext W W') : ∀ {ts : List TypeId} {vs : List Value} {ds : List (DataW H)} {ps : List MemPlace},
    (∀ t ∈ ts, Tryz.prog.readableRec t = true ∧ t < Tryz.prog.types.size) → DataW.TrodAll enc Tryz.prog W 0 (fun _ => true) true ts vs ds ps → (∀ p ∈ ps, p.block < W.heap.size) → (∀ p ∈ ps, sp' p.block = true) → DataW.TrodAll enc Tryz.prog W' 0 sp' true ts vs ds ps
  | [], [], [], _, _, h, _, _ => h
  | t :: ts, v :: vs, d :: ds, ps, hr, h, hl, hs => by
    obtain ⟨p, q, h1, h2, rfl⟩ := h
    refine ⟨p, q, WideElems.Trod_stays cLaid (hr t (by simp)).1 (hr t (by simp)).2 h1 (fun x hx => ?_) (fun x hx => hs x (by simp [hx])), all_again k (fun u hu => hr u (by simp [hu])) h2 (fun x hx => hl x (by simp [hx])) (fun x hx => hs x (by simp [hx])), rfl⟩
    have hb := hl x (by simp [hx])
    cases x with
    | cell b o => exact World.cell?_of_block (k.block b hb)
    | map b => exact k.block b hb
  | [], [], _ :: _, _, _, h, _, _ => h.elim
  | [], _ :: _, _, _, _, h, _, _ => h.elim
  | _ :: _, [], _, _, _, h, _, _ => h.elim
  | _ :: _, _ :: _, [], _, _, h, _, _ => h.elim
theorem wf64 {n : Int} (h : (Lit.int .i64 n).wf = true) : In64 n := by
  simp only [Lit.wf, Bool.and_eq_true, decide_eq_true_eq] at h
  have e1 : IntKind.i64.min = -9223372036854775808 := rfl
  have e2 : IntKind.i64.max = 9223372036854775807 := rfl
  rw [e1, e2] at h
  unfold In64; omega
section
variable {H : Type} {enc : TypeId × Value → H} {W : World} {base fuel b0 : Nat} {x : DataW H × List MemPlace}
set_option maxRecDepth 100000 in
theorem pair_of {v : Value} (hv : Value.okWide Tryz.prog W .any b0 22 v) (h : DataW.trod enc Tryz.prog W base (fun _ => true) true fuel 22 v.cells.toList = some x) :
    ∃ a b : Int, v = .agg #[.int .i64 a, .int .i64 b] ∧ In64 a ∧ In64 b := by
  unfold Value.okWide at hv
  rw [Tryz.underlying22] at hv
  obtain ⟨cs, rfl, hs, _⟩ := hv
  rw [c88] at hs
  obtain ⟨xs, m, _, _, _, hl, hx⟩ := DataW.trod_array Tryz.underlying22 h
  obtain ⟨l⟩ := cs
  match l, hs with
  | [u, v], _ =>
    have h0 := hx 0 (by decide)
    have h1 := hx 1 (by decide)
    rw [c3] at h0 h1
    rw [List.getElem?_eq_getElem (show 0 < xs.length by omega)] at h0
    rw [List.getElem?_eq_getElem (show 1 < xs.length by omega)] at h1
    obtain ⟨a, ea, _, wa⟩ := DataW.trod_int Tryz.underlying3 h0
    obtain ⟨b, eb, _, wb⟩ := DataW.trod_int Tryz.underlying3 h1
    have ea : u = .int .i64 a := by simpa [Value.cells] using ea
    have eb : v = .int .i64 b := by simpa [Value.cells] using eb
    exact ⟨a, b, by rw [ea, eb], wf64 wa, wf64 wb⟩
end
end Go.Proofs.YteojhdahhaodoaaGreatDoor
namespace Go.Proofs.YteojhdahhaodoaaGreatDoor
set_option maxRecDepth 100000
open Go Go.Eng Go.RowKit
attribute [local irreducible] wpListIn Code.wpIn Oper.wpIn Exit.then Exit.inBlock Exit.noGoto
set_option maxHeartbeats 40000000
theorem mirror_eq {f c T : Int} : ((qR (1 * T - c * 1) (1 * T), qR (1 * T - f * 1) (1 * T)) : R × R) = (qR (T - c) T, qR (T - f) T) := by
  rw [show 1 * T - c * 1 = T - c by omega, show 1 * T - f * 1 = T - f by omega, Int.one_mul]
theorem sym_lt {x0 x1 y0 y1 z N D M E f c g k : Int} {pl : Nat} {w : World} (hx0 : In64 x0) (hx1 : In64 x1) (hy0 : In64 y0) (hy1 : In64 y1) (hz : In64 z) (hD : 1 + pickI x1 50 = D) (hN : pickI x0 (2 * (9 * D) + 1) - 9 * D = N) (hE : 1 + pickI y1 50 = E) (hM : pickI y0 (2 * (9 * E) + 1) - 9 * E = M) (hpl : 1 + pickI z 12 = (pl : Int)) (hN1 : NrmC N D pl f c) (hN2 : NrmC (0 * D - N * 1) (1 * D) pl (tenI pl - c) (tenI pl - f)) (hN3 : NrmC M E pl g k) (h0f : 0 ≤ f) (hfc : f ≤ c) (hcT : c ≤ tenI pl) (g9 : g.natAbs < 10 ^ 70) (k9 : k.natAbs < 10 ^ 70) (hm : N * E < M * D → f ≤ g ∧ c ≤ k) (hlt : N * E < M * D) (ht : Tb w) :
    Calls Tryz.prog 5 #[.agg #[.int .i64 (x0), .int .i64 (x1)], .agg #[.int .i64 (y0), .int .i64 (y1)], .int .i64 (z)] w (Ret w fun v w' => v = .bool true) := by
 have bd := pick_bd x1 50 dc;have bn := pick_bd x0 (2 * (9 * D) + 1) om;have bd2 := pick_bd y1 50 dc;have bn2 := pick_bd y0 (2 * (9 * E) + 1) om;have bz2 := pick_bd z 12 dc;have qa : Q9 N D := q9_small om om om;have qb : Q9 M E := q9_small om om om;have hT := ten_pos pl;have hp12 : pl ≤ 12 := by omega
 have hT9 : tenI pl ≤ 10 ^ 30 := ten_le om;have qf := q9_cell (f := f) (pl := pl) om hp12;have qc := q9_cell (f := c) (pl := pl) om hp12;have hiv : IvR (qR f (tenI pl), qR c (tenI pl)) := ⟨f, tenI pl, c, tenI pl, rfl, rfl, qf, qc, Int.mul_le_mul_of_nonneg_right hfc (Int.le_of_lt hT)⟩;have qg := q9_cell (f := g) (pl := pl) g9 hp12;have qk := q9_cell (f := k) (pl := pl) k9 hp12;have hfg := Int.mul_le_mul_of_nonneg_right (c := tenI pl) (hm hlt).1 (Int.le_of_lt hT);have hck := Int.mul_le_mul_of_nonneg_right (c := tenI pl) (hm hlt).2 (Int.le_of_lt hT);refine f_in Tryz.func5 rfl ?_;refine go ?_;refine bx (fun gw nw fw => ?_);have ac := nw.2;refine bx (fun sd l7 f6 => ?_);have fw := be l7.2 fw;have ac := xt ac l7.2;refine go ?_;refine cl en1006 (sane6_ok (ht.ext ac)) ?_;rintro se sh lk rfl;have fw := be lk.2 fw;have f6 := be lk.2 f6;have ac := xt ac lk.2;refine go ?_;refine clb en1007 (hc := small6_ok hx0 hx1 dc dc hD hN (ht.ext ac)) (hk := ?_);rintro si gq ll rfl;have fw := be ll.2 fw;have f6 := be ll.2 f6;have ac := xt ac ll.2;refine al inf36 (fun sj ln nz => ?_);have fw := be ln.2 fw;have f6 := be ln.2 f6;have ac := xt ac ln.2;refine SA nz (fun sl j5 iu => ?_);have fw := pb j5 fw;have f6 := pb j5 f6;have ac := plw j5 ac;have sn := psz j5;refine go ?_;refine clb en1007 (hc := small6_ok hy0 hy1 dc dc hE hM (ht.ext ac)) (hk := ?_)
 rintro sq gv j6 rfl;have fw := be j6.2 fw;have f6 := be j6.2 f6;have iu := be j6.2 iu;have ac := xt ac j6.2;refine al inf36 (fun sr j7 n3 => ?_);have fw := be j7.2 fw;have f6 := be j7.2 f6;have iu := be j7.2 iu;have ac := xt ac j7.2;refine SA n3 (fun ss jq lu => ?_);have fw := pb jq fw;have f6 := pb jq f6;have iu := pb jq iu;have ac := plw jq ac;have su := psz jq;refine go ?_;refine clb en1011 (hc := pick6_ok z 12 _ hz dc) (hk := ?_);rintro sv lv jr rfl;have fw := be jr.2 fw;have f6 := be jr.2 f6;have iu := be jr.2 iu;have lu := be jr.2 lu;have ac := xt ac jr.2;refine l_op (k_add (a := 1) (b := pickI z 12) (c := (pl : Int)) rfl rfl (by unfold In64; omega) hpl ?_);refine go ?_;have jg := Ext.drew lv;refine c_st2 hmix 8 (fun e0 ls e W => ∃ fq : Nat, (∀ t, inB [11, 30, 31, 32, 33, 34, 35] t = false → e t = e0 t) ∧ (Ext w W) ∧ (lv.heap.size ≤ W.heap.size) ∧ (ls 0 = true → e 31 = .agg #[S ((qR 0 1).1), S ((qR 0 1).2)]) ∧ (ls 1 = true → e 32 = .agg #[S ((qR N D).1), S ((qR N D).2)]) ∧ (ls 2 = true → e 33 = .tuple #[.agg #[S ((qR (0 * D - N * 1) (1 * D)).1), S ((qR (0 * D - N * 1) (1 * D)).2)], .int .i64 (0)]) ∧ (ls 3 = true → e 30 = .tuple #[.agg #[S ((qR (0 * D - N * 1) (1 * D)).1), S ((qR (0 * D - N * 1) (1 * D)).2)], .int .i64 (0)]) ∧ (ls 4 = true → e 34 = .agg #[S ((qR (0 * D - N * 1) (1 * D)).1), S ((qR (0 * D - N * 1) (1 * D)).2)]) ∧ (ls 5 = true → e 35 = .int .i64 (0)) ∧ (ls 6 = true → e 11 = .pointer (some ⟨fq, 0, none⟩)) ∧ (ls 6 = true → lv.heap.size ≤ fq) ∧ (Blk W (w.heap.size) 22 #[.int .i64 (x0), .int .i64 (x1)]) ∧ (Blk W (gw.heap.size) 22 #[.int .i64 (y0), .int .i64 (y1)]) ∧ (Blk W (gq.heap.size) 25 #[S ((qR N D).1), S ((qR N D).2)]) ∧ (Blk W (gv.heap.size) 25 #[S ((qR M E).1), S ((qR M E).2)]) ∧ (ls 6 = true → ls 7 = false → Blk W (fq) 25 #[S ([]), S ([])]) ∧ (ls 7 = true → Blk W (fq) 25 #[S ((qR (0 * D - N * 1) (1 * D)).1), S ((qR (0 * D - N * 1) (1 * D)).2)])) ⟨0, (fun _ _ => rfl), (xt ac jg), (bz jg), (ff rfl), (ff rfl), (ff rfl), (ff rfl), (ff rfl), (ff rfl), (ff rfl), (ff rfl), (be jg fw), (be jg f6), (be jg iu), (be jg lu), (fun h _ => ff rfl h), (fun h  => ff rfl h)⟩ (by kernel_rfl) (by kernel_rfl) ?_ ?_
 refine ⟨fun sy j8 js n4 jt l8 ta => ?_, ?_⟩;obtain ⟨fq, n6, ac, zst, gj, gk, gl, f7, gm, gp, f8, gc, gd, gg, gh, gi, gu, ij⟩ := n4;obtain ⟨sy, rfl⟩ := ovE n6;have n7 : js 2 = false := (unl jt (i := 0) (j := 2) rfl l8);have n8 : js 7 = false := (unl jt (i := 0) (j := 7) rfl l8);have l9 : js 3 = false := (unl jt (i := 2) (j := 3) rfl n7);have tc : js 4 = false := (unl jt (i := 3) (j := 4) rfl l9);have td : js 5 = false := (unl jt (i := 3) (j := 5) rfl l9);have te := bz ac;have j9 : Blk j8 (w.heap.size) 22 #[.int .i64 (x0), .int .i64 (x1)] := gd;have tg := bt j9;have ka : Blk j8 (gw.heap.size) 22 #[.int .i64 (y0), .int .i64 (y1)] := gg;have th := bt ka;have kb : Blk j8 (gq.heap.size) 25 #[S ((qR N D).1), S ((qR N D).2)] := gh;have tj := bt kb;have ke : Blk j8 (gv.heap.size) 25 #[S ((qR M E).1), S ((qR M E).2)] := gi;have tl := bt ke;refine clb en1009 (hc := lOf_ok (by unfold In64; omega) (by unfold In64; omega) om (ht.ext ac)) (hk := ?_);rintro tm tn jh rfl;have j9 := be jh.2 j9;have ka := be jh.2 ka;have kb := be jh.2 kb;have ke := be jh.2 ke;have ac := xt ac jh.2;refine go ?_;exact ⟨rfl, _, (act_put _ _ _ _ _).symm, fq, (same_upd rfl n6), ac, om, (fun _ => rfl), gk, gl, f7, gm, gp, f8, gc, (j9), (ka), (kb), (ke), (fun n9 oa => (be jh.2 (gu n9 oa))), (fun oc => ff n8 oc)⟩;refine ⟨fun tp kf ju oe jv ma tq => ?_, ?_⟩;obtain ⟨fq, mb, ac, zst, gj, gk, gl, f7, gm, gp, f8, gc, gd, gg, gh, gi, gu, ij⟩ := oe;obtain ⟨tp, rfl⟩ := ovE mb
 have og : ju 2 = false := (unl jv (i := 1) (j := 2) rfl ma);have oh : ju 7 = false := (unl jv (i := 1) (j := 7) rfl ma);have mc : ju 3 = false := (unl jv (i := 2) (j := 3) rfl og);have tu : ju 4 = false := (unl jv (i := 3) (j := 4) rfl mc);have tv : ju 5 = false := (unl jv (i := 3) (j := 5) rfl mc);have tw := bz ac;have me : Blk kf (w.heap.size) 22 #[.int .i64 (x0), .int .i64 (x1)] := gd;have tz := bt me;have mf : Blk kf (gw.heap.size) 22 #[.int .i64 (y0), .int .i64 (y1)] := gg;have t6 := bt mf;have lw : Blk kf (gq.heap.size) 25 #[S ((qR N D).1), S ((qR N D).2)] := gh;have t7 := bt lw;have mg : Blk kf (gv.heap.size) 25 #[S ((qR M E).1), S ((qR M E).2)] := gi;have t8 := bt mg;refine go ?_;exact ⟨rfl, _, (act_put _ _ _ _ _).symm, fq, (same_upd rfl mb), ac, om, gj, (fun _ => rfl), gl, f7, gm, gp, f8, gc, (me), (mf), (lw), (mg), (fun oi ol => gu oi ol), (fun ot => ff oh ot)⟩;refine ⟨fun mh kg ji ou kh mi mj => ?_, ?_⟩;obtain ⟨fq, ow, ac, zst, gj, gk, gl, f7, gm, gp, f8, gc, gd, gg, gh, gi, gu, ij⟩ := ou;obtain ⟨mh, rfl⟩ := ovE ow;have ox : ji 0 = true := (mj 0 rfl);have oy : ji 1 = true := (mj 1 rfl);have ml : ji 3 = false := (unl kh (i := 2) (j := 3) rfl mi);have oz : ji 7 = false := (unl kh (i := 2) (j := 7) rfl mi);have ua : ji 4 = false := (unl kh (i := 3) (j := 4) rfl ml);have ub : ji 5 = false := (unl kh (i := 3) (j := 5) rfl ml);have o0 : mh 31 = .agg #[S ((qR 0 1).1), S ((qR 0 1).2)] := gj ox;have o5 : mh 32 = .agg #[S ((qR N D).1), S ((qR N D).2)] := gk oy
 have ud := bz ac;have ki : Blk kg (w.heap.size) 22 #[.int .i64 (x0), .int .i64 (x1)] := gd;have ue := bt ki;have kj : Blk kg (gw.heap.size) 22 #[.int .i64 (y0), .int .i64 (y1)] := gg;have uf := bt kj;have km : Blk kg (gq.heap.size) 25 #[S ((qR N D).1), S ((qR N D).2)] := gh;have ug := bt km;have kn : Blk kg (gv.heap.size) 25 #[S ((qR M E).1), S ((qR M E).2)] := gi;have uh := bt kn;refine cl en220 (qSubX q9l0 qa (ht.ext ac)) ?_ (cons_eq o0 (cons_eq o5 rfl));rintro ui uj jj rfl;have ki := be jj.2 ki;have kj := be jj.2 kj;have km := be jj.2 km;have kn := be jj.2 kn;have ac := xt ac jj.2;refine go ?_;exact ⟨rfl, _, (act_put _ _ _ _ _).symm, fq, (same_upd rfl ow), ac, om, gj, gk, (fun _ => rfl), f7, gm, gp, f8, gc, (ki), (kj), (km), (kn), (fun o6 o7 => (be jj.2 (gu o6 o7))), (fun o8 => ff oz o8)⟩;refine ⟨fun o9 ko jk pc jw lx pf => ?_, ?_⟩;obtain ⟨fq, pg, ac, zst, gj, gk, gl, f7, gm, gp, f8, gc, gd, gg, gh, gi, gu, ij⟩ := pc;obtain ⟨o9, rfl⟩ := ovE pg;have lz : jk 2 = true := (pf 2 rfl);have uk : jk 0 = true := (jw 2 0 rfl lz);have ul : jk 1 = true := (jw 2 1 rfl lz);have um : jk 4 = false := (unl jw (i := 3) (j := 4) rfl lx);have un : jk 5 = false := (unl jw (i := 3) (j := 5) rfl lx);have pj : jk 7 = false := (unl jw (i := 3) (j := 7) rfl lx);have pm : o9 33 = .tuple #[.agg #[S ((qR (0 * D - N * 1) (1 * D)).1), S ((qR (0 * D - N * 1) (1 * D)).2)], .int .i64 (0)] := gl lz;have uo := bz ac;have mm : Blk ko (w.heap.size) 22 #[.int .i64 (x0), .int .i64 (x1)] := gd
 have uq := bt mm;have mo : Blk ko (gw.heap.size) 22 #[.int .i64 (y0), .int .i64 (y1)] := gg;have ut := bt mo;have mp : Blk ko (gq.heap.size) 25 #[S ((qR N D).1), S ((qR N D).2)] := gh;have uu := bt mp;have mu : Blk ko (gv.heap.size) 25 #[S ((qR M E).1), S ((qR M E).2)] := gi;have uv := bt mu;refine go ?_;exact ⟨rfl, _, (act_put _ _ _ _ _).symm, fq, (same_upd rfl pg), ac, om, gj, gk, gl, (fun _ => rfl), gm, gp, f8, gc, (mm), (mo), (mp), (mu), (fun pn po => gu pn po), (fun pp => ff pj pp)⟩;refine ⟨fun pq kp jx pr kq pt pu => ?_, ?_⟩;obtain ⟨fq, pw, ac, zst, gj, gk, gl, f7, gm, gp, f8, gc, gd, gg, gh, gi, gu, ij⟩ := pr;obtain ⟨pq, rfl⟩ := ovE pw;have mv : jx 3 = true := (pu 3 rfl);have mw : jx 2 = true := (kq 3 2 rfl mv);have uw : jx 0 = true := (kq 2 0 rfl mw);have ux : jx 1 = true := (kq 2 1 rfl mw);have px : jx 7 = false := (unl kq (i := 4) (j := 7) rfl pt);have py : pq 30 = .tuple #[.agg #[S ((qR (0 * D - N * 1) (1 * D)).1), S ((qR (0 * D - N * 1) (1 * D)).2)], .int .i64 (0)] := f7 mv;have uy := bz ac;have mx : Blk kp (w.heap.size) 22 #[.int .i64 (x0), .int .i64 (x1)] := gd;have uz := bt mx;have my : Blk kp (gw.heap.size) 22 #[.int .i64 (y0), .int .i64 (y1)] := gg;have u0 := bt my;have mz : Blk kp (gq.heap.size) 25 #[S ((qR N D).1), S ((qR N D).2)] := gh;have u3 := bt mz;have m0 : Blk kp (gv.heap.size) 25 #[S ((qR M E).1), S ((qR M E).2)] := gi;have u4 := bt m0;refine go ?_;exact ⟨rfl, _, (act_put _ _ _ _ _).symm, fq, (same_upd rfl pw), ac, om, gj, gk, gl, f7, (fun _ => rfl), gp, f8, gc, (mx), (my), (mz), (m0), (fun p0 p7 => gu p0 p7), (fun p9 => ff px p9)⟩
 refine ⟨fun qe kr ks qh l0 u5 qj => ?_, ?_⟩;obtain ⟨fq, ql, ac, zst, gj, gk, gl, f7, gm, gp, f8, gc, gd, gg, gh, gi, gu, ij⟩ := qh;obtain ⟨qe, rfl⟩ := ovE ql;have m5 : ks 3 = true := (qj 3 rfl);have m6 : ks 2 = true := (l0 3 2 rfl m5);have u6 : ks 0 = true := (l0 2 0 rfl m6);have u7 : ks 1 = true := (l0 2 1 rfl m6);have qn : qe 30 = .tuple #[.agg #[S ((qR (0 * D - N * 1) (1 * D)).1), S ((qR (0 * D - N * 1) (1 * D)).2)], .int .i64 (0)] := f7 m5;have vd := bz ac;have m7 : Blk kr (w.heap.size) 22 #[.int .i64 (x0), .int .i64 (x1)] := gd;have ve := bt m7;have m8 : Blk kr (gw.heap.size) 22 #[.int .i64 (y0), .int .i64 (y1)] := gg;have vg := bt m8;have m9 : Blk kr (gq.heap.size) 25 #[S ((qR N D).1), S ((qR N D).2)] := gh;have vh := bt m9;have na : Blk kr (gv.heap.size) 25 #[S ((qR M E).1), S ((qR M E).2)] := gi;have vi := bt na;refine go ?_;exact ⟨rfl, _, (act_put _ _ _ _ _).symm, fq, (same_upd rfl ql), ac, om, gj, gk, gl, f7, gm, (fun _ => rfl), f8, gc, (m7), (m8), (m9), (na), (fun qo qq => gu qo qq), (fun qr => ij qr)⟩;refine ⟨fun vj jy qy q5 q6 q7 vk => ?_, ?_⟩;obtain ⟨fq, q8, ac, zst, gj, gk, gl, f7, gm, gp, f8, gc, gd, gg, gh, gi, gu, ij⟩ := q5;obtain ⟨vj, rfl⟩ := ovE q8;have q9 : qy 7 = false := (unl q6 (i := 6) (j := 7) rfl q7);have vl := bz ac;have kt : Blk jy (w.heap.size) 22 #[.int .i64 (x0), .int .i64 (x1)] := gd;have vm := bt kt;have ku : Blk jy (gw.heap.size) 22 #[.int .i64 (y0), .int .i64 (y1)] := gg;have vn := bt ku;have kv : Blk jy (gq.heap.size) 25 #[S ((qR N D).1), S ((qR N D).2)] := gh
 have vo := bt kv;have kw : Blk jy (gv.heap.size) 25 #[S ((qR M E).1), S ((qR M E).2)] := gi;have vq := bt kw;refine al inf36 (fun vr jz ra => ?_);have kt := be jz.2 kt;have ku := be jz.2 ku;have kv := be jz.2 kv;have kw := be jz.2 kw;have ac := xt ac jz.2;refine go ?_;exact ⟨rfl, _, (act_put _ _ _ _ _).symm, jy.heap.size, (same_upd rfl q8), ac, om, gj, gk, gl, f7, gm, gp, (fun _ => rfl), (fun _ => om), (kt), (ku), (kv), (kw), (fun vt vu => ra), (fun rb => ff q9 rb)⟩;refine ⟨fun nc j2 jl rd ky re nd => ?_, ?_⟩;obtain ⟨fq, rh, ac, zst, gj, gk, gl, f7, gm, gp, f8, gc, gd, gg, gh, gi, gu, ij⟩ := rd;obtain ⟨nc, rfl⟩ := ovE rh;have l5 : jl 6 = true := (nd 6 rfl);have nf : jl 4 = true := (nd 4 rfl);have ri : jl 3 = true := (ky 4 3 rfl nf);have nh : jl 2 = true := (ky 3 2 rfl ri);have vw : jl 0 = true := (ky 2 0 rfl nh);have vx : jl 1 = true := (ky 2 1 rfl nh);have rj : nc 34 = .agg #[S ((qR (0 * D - N * 1) (1 * D)).1), S ((qR (0 * D - N * 1) (1 * D)).2)] := gm nf;have rk : nc 11 = .pointer (some ⟨fq, 0, none⟩) := f8 l5;have vy := bz ac;have rm := gc l5;have kz : Blk j2 (w.heap.size) 22 #[.int .i64 (x0), .int .i64 (x1)] := gd;have vz := bt kz;have ld : Blk j2 (gw.heap.size) 22 #[.int .i64 (y0), .int .i64 (y1)] := gg;have v8 := bt ld;have lg : Blk j2 (gq.heap.size) 25 #[S ((qR N D).1), S ((qR N D).2)] := gh;have wc := bt lg;have lh : Blk j2 (gv.heap.size) 25 #[S ((qR M E).1), S ((qR M E).2)] := gi;have wd := bt lh
 have ni : Blk j2 (fq) 25 #[S ([]), S ([])] := gu l5 re;have we := bt ni;refine SA ni (fun wg jm rp => ?_);have kz := pb jm kz;have ld := pb jm ld;have lg := pb jm lg;have lh := pb jm lh;have ac := plw jm ac;have wh := psz jm;refine go ?_;exact ⟨rfl, undef, rfl, fq, rh, ac, om, gj, gk, gl, f7, gm, gp, f8, gc, (kz), (ld), (lg), (lh), (fun wi rq => tf rfl rq), (fun wj => rp)⟩;exact trivial;intro jn j3 wk li rr;obtain ⟨fq, lj, ac, zst, gj, gk, gl, f7, gm, gp, f8, gc, gd, gg, gh, gi, gu, ij⟩ := rr;obtain ⟨jn, rfl⟩ := ovE lj;have wl := bz ac;have rm := gc (li 6 rfl);have fg : Blk j3 (w.heap.size) 22 #[.int .i64 (x0), .int .i64 (x1)] := gd;have wm := bt fg;have fh : Blk j3 (gw.heap.size) 22 #[.int .i64 (y0), .int .i64 (y1)] := gg;have wn := bt fh;have en : Blk j3 (gq.heap.size) 25 #[S ((qR N D).1), S ((qR N D).2)] := gh;have wo := bt en;have e8 : Blk j3 (gv.heap.size) 25 #[S ((qR M E).1), S ((qR M E).2)] := gi;have wp := bt e8;have fe : Blk j3 (fq) 25 #[S ((qR (0 * D - N * 1) (1 * D)).1), S ((qR (0 * D - N * 1) (1 * D)).2)] := ij (li 7 rfl);have ws := bt fe;have rt : jn 35 = .int .i64 (0) := (gp (li 5 rfl));refine go ?_;refine cl en1017 (hN1 _ (ht.ext ac)) ?_;rintro wt jc jo rfl;have fg := be jo.2 fg;have fh := be jo.2 fh;have en := be jo.2 en;have e8 := be jo.2 e8;have fe := be jo.2 fe;have ac := xt ac jo.2;refine go ?_;refine al inf1032 (fun wu jp ru => ?_)
 have fg := be jp.2 fg;have fh := be jp.2 fh;have en := be jp.2 en;have e8 := be jp.2 e8;have fe := be jp.2 fe;have ac := xt ac jp.2;refine SA ru (fun wv jd fj => ?_);have fg := pb jd fg;have fh := pb jd fh;have en := pb jd en;have e8 := pb jd e8;have fe := pb jd fe;have ac := plw jd ac;have ww := psz jd;refine go ?_;have ry : jn 11 = .pointer (some ⟨fq, 0, none⟩) := (f8 (li 6 rfl));refine go ?_;refine cl en1017 (hN2 _ (ht.ext ac)) ?_;rintro wx nk je rfl;have fg := be je.2 fg;have fh := be je.2 fh;have en := be je.2 en;have e8 := be je.2 e8;have fe := be je.2 fe;have fj := be je.2 fj;have ac := xt ac je.2;refine go ?_;refine al inf1032 (fun wy jf rz => ?_);have fg := be jf.2 fg;have fh := be jf.2 fh;have en := be jf.2 en;have e8 := be jf.2 e8;have fe := be jf.2 fe;have fj := be jf.2 fj;have ac := xt ac jf.2;refine SA rz (fun xa iz fk => ?_);have fg := pb iz fg;have fh := pb iz fh;have en := pb iz en;have e8 := pb iz e8;have fe := pb iz fe;have fj := pb iz fj;have ac := plw iz ac;have xb := psz iz;refine go ?_;refine cl en1017 (hN3 _ (ht.ext ac)) ?_;rintro xc j4 ja rfl;have fg := be ja.2 fg;have fh := be ja.2 fh;have en := be ja.2 en;have e8 := be ja.2 e8
 have fe := be ja.2 fe;have fj := be ja.2 fj;have fk := be ja.2 fk;have ac := xt ac ja.2;refine go ?_;refine al inf1032 (fun xd jb r6 => ?_);have fg := be jb.2 fg;have fh := be jb.2 fh;have en := be jb.2 en;have e8 := be jb.2 e8;have fe := be jb.2 fe;have fj := be jb.2 fj;have fk := be jb.2 fk;have ac := xt ac jb.2;refine SA r6 (fun xe iv fm => ?_);have fg := pb iv fg;have fh := pb iv fh;have en := pb iv en;have e8 := pb iv e8;have fe := pb iv fe;have fj := pb iv fj;have fk := pb iv fk;have ac := plw iv ac;have xf := psz iv;refine go ?_;refine clb en1009 (hc := lOf_ok (by unfold In64; omega) (by unfold In64; omega) om (ht.ext ac)) (hk := ?_);rintro xg xh iw rfl;have fg := be iw.2 fg;have fh := be iw.2 fh;have en := be iw.2 en;have e8 := be iw.2 e8;have fe := be iw.2 fe;have fj := be iw.2 fj;have fk := be iw.2 fk;have fm := be iw.2 fm;have ac := xt ac iw.2;refine cl en1019 (point_ok rfl q9l1 (ht.ext ac)) ?_;rintro xi nn ix rfl;have fg := be ix.2 fg;have fh := be ix.2 fh;have en := be ix.2 en;have e8 := be ix.2 e8;have fe := be ix.2 fe;have fj := be ix.2 fj;have fk := be ix.2 fk;have fm := be ix.2 fm;have ac := xt ac ix.2;refine al inf1032 (fun xj iy r7 => ?_);have fg := be iy.2 fg;have fh := be iy.2 fh
 have en := be iy.2 en;have e8 := be iy.2 e8;have fe := be iy.2 fe;have fj := be iy.2 fj;have fk := be iy.2 fk;have fm := be iy.2 fm;have ac := xt ac iy.2;refine SA r7 (fun xk ik fo => ?_);have fg := pb ik fg;have fh := pb ik fh;have en := pb ik en;have e8 := pb ik e8;have fe := pb ik fe;have fj := pb ik fj;have fk := pb ik fk;have fm := pb ik fm;have ac := plw ik ac;have xl := psz ik;refine go ?_;refine l_op (k_loadA (cs := [S ((qR 1 1).1), S ((qR 1 1).2), S ((qR 1 1).1), S ((qR 1 1).2)]) (b := nn.heap.size) (o := 0) U1032 rfl sz1032 rfl (Blk.cells fo (i := 0) rfl) ?_);refine l_op (k_loadA (cs := [S ((qR f (tenI (pl))).1), S ((qR f (tenI (pl))).2), S ((qR c (tenI (pl))).1), S ((qR c (tenI (pl))).2)]) (b := jc.heap.size) (o := 0) U1032 rfl sz1032 rfl (Blk.cells fj (i := 0) rfl) ?_);refine cl en1018 (encSub_ok (x := (qR 1 1, qR 1 1)) (y := (qR f (tenI pl), qR c (tenI pl))) (ivr_point rfl q9l1) hiv rfl rfl q9l1 q9l1 rfl rfl qf qc (ht.ext ac)) ?_;rintro xm nu il rfl;have fg := be il.2 fg;have fh := be il.2 fh;have en := be il.2 en;have e8 := be il.2 e8;have fe := be il.2 fe;have fj := be il.2 fj;have fk := be il.2 fk;have fm := be il.2 fm;have fo := be il.2 fo;have ac := xt ac il.2;refine go ?_;refine al inf1032 (fun xn im r8 => ?_)
 have fg := be im.2 fg;have fh := be im.2 fh;have en := be im.2 en;have e8 := be im.2 e8;have fe := be im.2 fe;have fj := be im.2 fj;have fk := be im.2 fk;have fm := be im.2 fm;have fo := be im.2 fo;have ac := xt ac im.2;refine SA r8 (fun xo gy fp => ?_);have fg := pb gy fg;have fh := pb gy fh;have en := pb gy en;have e8 := pb gy e8;have fe := pb gy fe;have fj := pb gy fj;have fk := pb gy fk;have fm := pb gy fm;have fo := pb gy fo;have ac := plw gy ac;have xp := psz gy;refine go ?_;refine l_op (k_loadA (cs := [S ((qR (1 * tenI pl - c * 1) (1 * tenI pl)).1), S ((qR (1 * tenI pl - c * 1) (1 * tenI pl)).2), S ((qR (1 * tenI pl - f * 1) (1 * tenI pl)).1), S ((qR (1 * tenI pl - f * 1) (1 * tenI pl)).2)]) (b := nu.heap.size) (o := 0) U1032 rfl sz1032 rfl (Blk.cells fp (i := 0) rfl) ?_);refine go ?_;refine l_op (k_loadA (cs := [S ((qR (tenI pl - c) (tenI (pl))).1), S ((qR (tenI pl - c) (tenI (pl))).2), S ((qR (tenI pl - f) (tenI (pl))).1), S ((qR (tenI pl - f) (tenI (pl))).2)]) (b := nk.heap.size) (o := 0) U1032 rfl sz1032 rfl (Blk.cells fk (i := 0) rfl) ?_);refine go ?_;refine l_op (k_neqI (a := (qR (1 * tenI pl - c * 1) (1 * tenI pl), qR (1 * tenI pl - f * 1) (1 * tenI pl))) (b := (qR (tenI pl - c) (tenI (pl)), qR (tenI pl - f) (tenI (pl)))) (q := false) rfl rfl (by rw [decide_eq_true (mirror_eq)]; rfl) ?_)
 refine go ?_;refine cl en49 (qCmpX qa qb (ht.ext ac)) ?_;rintro xq xr gz rfl;have fj := be gz.2 fj;have fm := be gz.2 fm;have ac := xt ac gz.2;have zq1q := cmpI_lt0 hlt;refine go ?_;refine cl en49 (qCmpX qf qg (ht.ext ac)) ?_;rintro xu xv g6 rfl;have fj := be g6.2 fj;have fm := be g6.2 fm;have ac := xt ac g6.2;have zq2q := cmpI_ngt (Int.not_lt.2 hfg);refine go ?_;refine cl en49 (qCmpX qc qk (ht.ext ac)) ?_;rintro xw xx g7 rfl;have fj := be g7.2 fj;have ac := xt ac g7.2;have zq3q := cmpI_ngt (Int.not_lt.2 hck);refine go ?_;refine c_an 6 ?_;refine sf ?_;refine sf_ap (fun x8 x9 iq ya => by have fj := be iq fj;refine go ?_;refine l_op (k_loadA (cs := [S ((qR f (tenI (pl))).1), S ((qR f (tenI (pl))).2), S ((qR c (tenI (pl))).1), S ((qR c (tenI (pl))).2)]) (b := jc.heap.size) (o := 0) U1032 rfl sz1032 rfl (Blk.cells fj (i := 0) rfl) ?_);refine go ?_;exact finp) ?_
 refine sf_ae (V := .agg #[S ((qR 0 1).1), S ((qR 0 1).2)]) (fun yb yc g8 yd => ?_) ?_;refine go ?_;refine clb en1009 (hc := lOf_ok (by unfold In64; omega) (by unfold In64; omega) om (ht.ext (xt ac g8))) (hk := ?_);rintro ye yf ia rfl;have sb := ia.2;refine go ?_;exact fs ⟨sb, rfl⟩;refine sf_ae (V := .agg #[S ((qR 1 1).1), S ((qR 1 1).2)]) (fun yg yh ic yi => ?_) ?_;refine go ?_;refine clb en1009 (hc := lOf_ok (by unfold In64; omega) (by unfold In64; omega) om (ht.ext (xt ac ic))) (hk := ?_);rintro yj yl ie rfl;have sc := ie.2;refine go ?_;exact fs ⟨sc, rfl⟩;refine sf_ap (fun ym yn ir yo => by refine go ?_;refine l_op (k_build (vs := [(0, .agg #[S ((qR 0 1).1), S ((qR 0 1).2)]), (1, .agg #[S ((qR 1 1).1), S ((qR 1 1).2)])]) (cells := #[S ((qR 0 1).1), S ((qR 0 1).2), S ((qR 1 1).1), S ((qR 1 1).2)]) (pl := [(0, 2), (2, 2)]) U1032 inf1032 (by kernel_rfl) rfl (by kernel_rfl) ?_);refine go ?_;exact finp) ?_
 refine sf ?_;intro yp yq ig yr;have ac := xt ac ig.2;with_reducible refine l_drop rfl ?_
 refine go ?_;refine clb en1020 (hc := encWithin_ok (x := (qR f (tenI pl), qR c (tenI pl))) (y := (qR 0 1, qR 1 1)) hiv ⟨0, 1, 1, 1, rfl, rfl, q9l0, q9l1, by decide⟩ rfl rfl qf qc rfl rfl q9l0 q9l1 om om om om (ht.ext ac)) (hk := ?_);rintro yt yu ii rfl;have ac := xt ac ii.2;refine go ?_;exact f_ret1 (t := 6) (v := .bool (true)) rfl ac rfl rfl
theorem sym_ge {x0 x1 y0 y1 z N D M E f c g k : Int} {pl : Nat} {w : World} (hx0 : In64 x0) (hx1 : In64 x1) (hy0 : In64 y0) (hy1 : In64 y1) (hz : In64 z) (hD : 1 + pickI x1 50 = D) (hN : pickI x0 (2 * (9 * D) + 1) - 9 * D = N) (hE : 1 + pickI y1 50 = E) (hM : pickI y0 (2 * (9 * E) + 1) - 9 * E = M) (hpl : 1 + pickI z 12 = (pl : Int)) (hN1 : NrmC N D pl f c) (hN2 : NrmC (0 * D - N * 1) (1 * D) pl (tenI pl - c) (tenI pl - f)) (hN3 : NrmC M E pl g k) (h0f : 0 ≤ f) (hfc : f ≤ c) (hcT : c ≤ tenI pl) (g9 : g.natAbs < 10 ^ 70) (k9 : k.natAbs < 10 ^ 70) (hm : N * E < M * D → f ≤ g ∧ c ≤ k) (hlt : ¬ N * E < M * D) (ht : Tb w) :
    Calls Tryz.prog 5 #[.agg #[.int .i64 (x0), .int .i64 (x1)], .agg #[.int .i64 (y0), .int .i64 (y1)], .int .i64 (z)] w (Ret w fun v w' => v = .bool true) := by
 have bd := pick_bd x1 50 dc;have bn := pick_bd x0 (2 * (9 * D) + 1) om;have bd2 := pick_bd y1 50 dc;have bn2 := pick_bd y0 (2 * (9 * E) + 1) om;have bz2 := pick_bd z 12 dc;have qa : Q9 N D := q9_small om om om;have qb : Q9 M E := q9_small om om om;have hT := ten_pos pl;have hp12 : pl ≤ 12 := by omega
 have hT9 : tenI pl ≤ 10 ^ 30 := ten_le om;have qf := q9_cell (f := f) (pl := pl) om hp12;have qc := q9_cell (f := c) (pl := pl) om hp12;have hiv : IvR (qR f (tenI pl), qR c (tenI pl)) := ⟨f, tenI pl, c, tenI pl, rfl, rfl, qf, qc, Int.mul_le_mul_of_nonneg_right hfc (Int.le_of_lt hT)⟩;refine f_in Tryz.func5 rfl ?_;refine go ?_;refine bx (fun gw nl fw => ?_);have ac := nl.2;refine bx (fun sb l0 f6 => ?_);have fw := be l0.2 fw;have ac := xt ac l0.2;refine go ?_;refine cl en1006 (sane6_ok (ht.ext ac)) ?_;rintro sc sd lg rfl;have fw := be lg.2 fw;have f6 := be lg.2 f6;have ac := xt ac lg.2;refine go ?_;refine clb en1007 (hc := small6_ok hx0 hx1 dc dc hD hN (ht.ext ac)) (hk := ?_);rintro se gq lh rfl;have fw := be lh.2 fw;have f6 := be lh.2 f6;have ac := xt ac lh.2;refine al inf36 (fun sh li nn => ?_);have fw := be li.2 fw;have f6 := be li.2 f6;have ac := xt ac li.2;refine SA nn (fun si jz iq => ?_);have fw := pb jz fw;have f6 := pb jz f6;have ac := plw jz ac;have sj := psz jz;refine go ?_;refine clb en1007 (hc := small6_ok hy0 hy1 dc dc hE hM (ht.ext ac)) (hk := ?_);rintro sl gv j2 rfl;have fw := be j2.2 fw;have f6 := be j2.2 f6;have iq := be j2.2 iq;have ac := xt ac j2.2;refine al inf36 (fun sn j3 nu => ?_);have fw := be j3.2 fw;have f6 := be j3.2 f6;have iq := be j3.2 iq
 have ac := xt ac j3.2;refine SA nu (fun sq jn lj => ?_);have fw := pb jn fw;have f6 := pb jn f6;have iq := pb jn iq;have ac := plw jn ac;have sr := psz jn;refine go ?_;refine clb en1011 (hc := pick6_ok z 12 _ hz dc) (hk := ?_);rintro ss lk jo rfl;have fw := be jo.2 fw;have f6 := be jo.2 f6;have iq := be jo.2 iq;have lj := be jo.2 lj;have ac := xt ac jo.2;refine l_op (k_add (a := 1) (b := pickI z 12) (c := (pl : Int)) rfl rfl (by unfold In64; omega) hpl ?_);refine go ?_;have jd := Ext.drew lk;refine c_st2 hmix 8 (fun e0 ls e W => ∃ fp : Nat, (∀ t, inB [11, 30, 31, 32, 33, 34, 35] t = false → e t = e0 t) ∧ (Ext w W) ∧ (lk.heap.size ≤ W.heap.size) ∧ (ls 0 = true → e 31 = .agg #[S ((qR 0 1).1), S ((qR 0 1).2)]) ∧ (ls 1 = true → e 32 = .agg #[S ((qR N D).1), S ((qR N D).2)]) ∧ (ls 2 = true → e 33 = .tuple #[.agg #[S ((qR (0 * D - N * 1) (1 * D)).1), S ((qR (0 * D - N * 1) (1 * D)).2)], .int .i64 (0)]) ∧ (ls 3 = true → e 30 = .tuple #[.agg #[S ((qR (0 * D - N * 1) (1 * D)).1), S ((qR (0 * D - N * 1) (1 * D)).2)], .int .i64 (0)]) ∧ (ls 4 = true → e 34 = .agg #[S ((qR (0 * D - N * 1) (1 * D)).1), S ((qR (0 * D - N * 1) (1 * D)).2)]) ∧ (ls 5 = true → e 35 = .int .i64 (0)) ∧ (ls 6 = true → e 11 = .pointer (some ⟨fp, 0, none⟩)) ∧ (ls 6 = true → lk.heap.size ≤ fp) ∧ (Blk W (w.heap.size) 22 #[.int .i64 (x0), .int .i64 (x1)]) ∧ (Blk W (gw.heap.size) 22 #[.int .i64 (y0), .int .i64 (y1)]) ∧ (Blk W (gq.heap.size) 25 #[S ((qR N D).1), S ((qR N D).2)]) ∧ (Blk W (gv.heap.size) 25 #[S ((qR M E).1), S ((qR M E).2)]) ∧ (ls 6 = true → ls 7 = false → Blk W (fp) 25 #[S ([]), S ([])]) ∧ (ls 7 = true → Blk W (fp) 25 #[S ((qR (0 * D - N * 1) (1 * D)).1), S ((qR (0 * D - N * 1) (1 * D)).2)])) ⟨0, (fun _ _ => rfl), (xt ac jd), (bz jd), (ff rfl), (ff rfl), (ff rfl), (ff rfl), (ff rfl), (ff rfl), (ff rfl), (ff rfl), (be jd fw), (be jd f6), (be jd iq), (be jd lj), (fun h _ => ff rfl h), (fun h  => ff rfl h)⟩ (by kernel_rfl) (by kernel_rfl) ?_ ?_
 refine ⟨fun su j4 jp nw jq l5 sv => ?_, ?_⟩;obtain ⟨fp, nz, ac, zst, gj, gk, gl, f7, gm, gp, f8, gc, gd, gg, gh, gi, gu, ig⟩ := nw;obtain ⟨su, rfl⟩ := ovE nz;have n3 : jp 2 = false := (unl jq (i := 0) (j := 2) rfl l5);have n4 : jp 7 = false := (unl jq (i := 0) (j := 7) rfl l5);have l6 : jp 3 = false := (unl jq (i := 2) (j := 3) rfl n3);have sy : jp 4 = false := (unl jq (i := 3) (j := 4) rfl l6);have ta : jp 5 = false := (unl jq (i := 3) (j := 5) rfl l6);have tc := bz ac;have j5 : Blk j4 (w.heap.size) 22 #[.int .i64 (x0), .int .i64 (x1)] := gd;have td := bt j5;have j6 : Blk j4 (gw.heap.size) 22 #[.int .i64 (y0), .int .i64 (y1)] := gg;have te := bt j6;have j7 : Blk j4 (gq.heap.size) 25 #[S ((qR N D).1), S ((qR N D).2)] := gh;have tg := bt j7;have j8 : Blk j4 (gv.heap.size) 25 #[S ((qR M E).1), S ((qR M E).2)] := gi;have th := bt j8;refine clb en1009 (hc := lOf_ok (by unfold In64; omega) (by unfold In64; omega) om (ht.ext ac)) (hk := ?_);rintro tj tl je rfl;have j5 := be je.2 j5;have j6 := be je.2 j6;have j7 := be je.2 j7;have j8 := be je.2 j8;have ac := xt ac je.2;refine go ?_;exact ⟨rfl, _, (act_put _ _ _ _ _).symm, fp, (same_upd rfl nz), ac, om, (fun _ => rfl), gk, gl, f7, gm, gp, f8, gc, (j5), (j6), (j7), (j8), (fun n6 n7 => (be je.2 (gu n6 n7))), (fun n8 => ff n4 n8)⟩;refine ⟨fun tm j9 jr n9 js l7 tn => ?_, ?_⟩;obtain ⟨fp, l8, ac, zst, gj, gk, gl, f7, gm, gp, f8, gc, gd, gg, gh, gi, gu, ig⟩ := n9;obtain ⟨tm, rfl⟩ := ovE l8
 have oa : jr 2 = false := (unl js (i := 1) (j := 2) rfl l7);have oc : jr 7 = false := (unl js (i := 1) (j := 7) rfl l7);have l9 : jr 3 = false := (unl js (i := 2) (j := 3) rfl oa);have tp : jr 4 = false := (unl js (i := 3) (j := 4) rfl l9);have tq : jr 5 = false := (unl js (i := 3) (j := 5) rfl l9);have tu := bz ac;have ma : Blk j9 (w.heap.size) 22 #[.int .i64 (x0), .int .i64 (x1)] := gd;have tv := bt ma;have mb : Blk j9 (gw.heap.size) 22 #[.int .i64 (y0), .int .i64 (y1)] := gg;have tw := bt mb;have ll : Blk j9 (gq.heap.size) 25 #[S ((qR N D).1), S ((qR N D).2)] := gh;have tz := bt ll;have mc : Blk j9 (gv.heap.size) 25 #[S ((qR M E).1), S ((qR M E).2)] := gi;have t6 := bt mc;refine go ?_;exact ⟨rfl, _, (act_put _ _ _ _ _).symm, fp, (same_upd rfl l8), ac, om, gj, (fun _ => rfl), gl, f7, gm, gp, f8, gc, (ma), (mb), (ll), (mc), (fun oe og => gu oe og), (fun oh => ff oc oh)⟩;refine ⟨fun me ka jf oi kb mf mg => ?_, ?_⟩;obtain ⟨fp, ol, ac, zst, gj, gk, gl, f7, gm, gp, f8, gc, gd, gg, gh, gi, gu, ig⟩ := oi;obtain ⟨me, rfl⟩ := ovE ol;have ot : jf 0 = true := (mg 0 rfl);have ou : jf 1 = true := (mg 1 rfl);have mh : jf 3 = false := (unl kb (i := 2) (j := 3) rfl mf);have ow : jf 7 = false := (unl kb (i := 2) (j := 7) rfl mf);have t7 : jf 4 = false := (unl kb (i := 3) (j := 4) rfl mh);have t8 : jf 5 = false := (unl kb (i := 3) (j := 5) rfl mh);have ox : me 31 = .agg #[S ((qR 0 1).1), S ((qR 0 1).2)] := gj ot;have oy : me 32 = .agg #[S ((qR N D).1), S ((qR N D).2)] := gk ou
 have ua := bz ac;have ke : Blk ka (w.heap.size) 22 #[.int .i64 (x0), .int .i64 (x1)] := gd;have ub := bt ke;have kf : Blk ka (gw.heap.size) 22 #[.int .i64 (y0), .int .i64 (y1)] := gg;have ud := bt kf;have kg : Blk ka (gq.heap.size) 25 #[S ((qR N D).1), S ((qR N D).2)] := gh;have ue := bt kg;have kh : Blk ka (gv.heap.size) 25 #[S ((qR M E).1), S ((qR M E).2)] := gi;have uf := bt kh;refine cl en220 (qSubX q9l0 qa (ht.ext ac)) ?_ (cons_eq ox (cons_eq oy rfl));rintro ug uh jg rfl;have ke := be jg.2 ke;have kf := be jg.2 kf;have kg := be jg.2 kg;have kh := be jg.2 kh;have ac := xt ac jg.2;refine go ?_;exact ⟨rfl, _, (act_put _ _ _ _ _).symm, fp, (same_upd rfl ol), ac, om, gj, gk, (fun _ => rfl), f7, gm, gp, f8, gc, (ke), (kf), (kg), (kh), (fun oz o0 => (be jg.2 (gu oz o0))), (fun o5 => ff ow o5)⟩;refine ⟨fun o6 ki jh o7 jt ln o8 => ?_, ?_⟩;obtain ⟨fp, o9, ac, zst, gj, gk, gl, f7, gm, gp, f8, gc, gd, gg, gh, gi, gu, ig⟩ := o7;obtain ⟨o6, rfl⟩ := ovE o9;have lu : jh 2 = true := (o8 2 rfl);have ui : jh 0 = true := (jt 2 0 rfl lu);have uj : jh 1 = true := (jt 2 1 rfl lu);have uk : jh 4 = false := (unl jt (i := 3) (j := 4) rfl ln);have ul : jh 5 = false := (unl jt (i := 3) (j := 5) rfl ln);have pc : jh 7 = false := (unl jt (i := 3) (j := 7) rfl ln);have pf : o6 33 = .tuple #[.agg #[S ((qR (0 * D - N * 1) (1 * D)).1), S ((qR (0 * D - N * 1) (1 * D)).2)], .int .i64 (0)] := gl lu;have um := bz ac;have mi : Blk ki (w.heap.size) 22 #[.int .i64 (x0), .int .i64 (x1)] := gd
 have un := bt mi;have mj : Blk ki (gw.heap.size) 22 #[.int .i64 (y0), .int .i64 (y1)] := gg;have uo := bt mj;have ml : Blk ki (gq.heap.size) 25 #[S ((qR N D).1), S ((qR N D).2)] := gh;have uq := bt ml;have mm : Blk ki (gv.heap.size) 25 #[S ((qR M E).1), S ((qR M E).2)] := gi;have ut := bt mm;refine go ?_;exact ⟨rfl, _, (act_put _ _ _ _ _).symm, fp, (same_upd rfl o9), ac, om, gj, gk, gl, (fun _ => rfl), gm, gp, f8, gc, (mi), (mj), (ml), (mm), (fun pg pj => gu pg pj), (fun pm => ff pc pm)⟩;refine ⟨fun pn kj ju po km pp pq => ?_, ?_⟩;obtain ⟨fp, pr, ac, zst, gj, gk, gl, f7, gm, gp, f8, gc, gd, gg, gh, gi, gu, ig⟩ := po;obtain ⟨pn, rfl⟩ := ovE pr;have mo : ju 3 = true := (pq 3 rfl);have mp : ju 2 = true := (km 3 2 rfl mo);have uu : ju 0 = true := (km 2 0 rfl mp);have uv : ju 1 = true := (km 2 1 rfl mp);have pt : ju 7 = false := (unl km (i := 4) (j := 7) rfl pp);have pu : pn 30 = .tuple #[.agg #[S ((qR (0 * D - N * 1) (1 * D)).1), S ((qR (0 * D - N * 1) (1 * D)).2)], .int .i64 (0)] := f7 mo;have uw := bz ac;have mu : Blk kj (w.heap.size) 22 #[.int .i64 (x0), .int .i64 (x1)] := gd;have ux := bt mu;have mv : Blk kj (gw.heap.size) 22 #[.int .i64 (y0), .int .i64 (y1)] := gg;have uy := bt mv;have mw : Blk kj (gq.heap.size) 25 #[S ((qR N D).1), S ((qR N D).2)] := gh;have uz := bt mw;have mx : Blk kj (gv.heap.size) 25 #[S ((qR M E).1), S ((qR M E).2)] := gi;have u0 := bt mx;refine go ?_;exact ⟨rfl, _, (act_put _ _ _ _ _).symm, fp, (same_upd rfl pr), ac, om, gj, gk, gl, f7, (fun _ => rfl), gp, f8, gc, (mu), (mv), (mw), (mx), (fun pw px => gu pw px), (fun py => ff pt py)⟩
 refine ⟨fun p0 kn ko p7 lv u3 p9 => ?_, ?_⟩;obtain ⟨fp, qe, ac, zst, gj, gk, gl, f7, gm, gp, f8, gc, gd, gg, gh, gi, gu, ig⟩ := p7;obtain ⟨p0, rfl⟩ := ovE qe;have my : ko 3 = true := (p9 3 rfl);have mz : ko 2 = true := (lv 3 2 rfl my);have u4 : ko 0 = true := (lv 2 0 rfl mz);have u5 : ko 1 = true := (lv 2 1 rfl mz);have qh : p0 30 = .tuple #[.agg #[S ((qR (0 * D - N * 1) (1 * D)).1), S ((qR (0 * D - N * 1) (1 * D)).2)], .int .i64 (0)] := f7 my;have u6 := bz ac;have m0 : Blk kn (w.heap.size) 22 #[.int .i64 (x0), .int .i64 (x1)] := gd;have u7 := bt m0;have m5 : Blk kn (gw.heap.size) 22 #[.int .i64 (y0), .int .i64 (y1)] := gg;have vd := bt m5;have m6 : Blk kn (gq.heap.size) 25 #[S ((qR N D).1), S ((qR N D).2)] := gh;have ve := bt m6;have m7 : Blk kn (gv.heap.size) 25 #[S ((qR M E).1), S ((qR M E).2)] := gi;have vg := bt m7;refine go ?_;exact ⟨rfl, _, (act_put _ _ _ _ _).symm, fp, (same_upd rfl qe), ac, om, gj, gk, gl, f7, gm, (fun _ => rfl), f8, gc, (m0), (m5), (m6), (m7), (fun qj ql => gu qj ql), (fun qn => ig qn)⟩;refine ⟨fun vh jv qo qq qr qy vi => ?_, ?_⟩;obtain ⟨fp, q5, ac, zst, gj, gk, gl, f7, gm, gp, f8, gc, gd, gg, gh, gi, gu, ig⟩ := qq;obtain ⟨vh, rfl⟩ := ovE q5;have q6 : qo 7 = false := (unl qr (i := 6) (j := 7) rfl qy);have vj := bz ac;have kp : Blk jv (w.heap.size) 22 #[.int .i64 (x0), .int .i64 (x1)] := gd;have vk := bt kp;have kq : Blk jv (gw.heap.size) 22 #[.int .i64 (y0), .int .i64 (y1)] := gg;have vl := bt kq;have kr : Blk jv (gq.heap.size) 25 #[S ((qR N D).1), S ((qR N D).2)] := gh
 have vm := bt kr;have ks : Blk jv (gv.heap.size) 25 #[S ((qR M E).1), S ((qR M E).2)] := gi;have vn := bt ks;refine al inf36 (fun vo jw q7 => ?_);have kp := be jw.2 kp;have kq := be jw.2 kq;have kr := be jw.2 kr;have ks := be jw.2 ks;have ac := xt ac jw.2;refine go ?_;exact ⟨rfl, _, (act_put _ _ _ _ _).symm, jv.heap.size, (same_upd rfl q5), ac, om, gj, gk, gl, f7, gm, gp, (fun _ => rfl), (fun _ => om), (kp), (kq), (kr), (ks), (fun vq vr => q7), (fun q8 => ff q6 q8)⟩;refine ⟨fun m8 jx ji q9 kt ra m9 => ?_, ?_⟩;obtain ⟨fp, rb, ac, zst, gj, gk, gl, f7, gm, gp, f8, gc, gd, gg, gh, gi, gu, ig⟩ := q9;obtain ⟨m8, rfl⟩ := ovE rb;have lw : ji 6 = true := (m9 6 rfl);have na : ji 4 = true := (m9 4 rfl);have rd : ji 3 = true := (kt 4 3 rfl na);have nc : ji 2 = true := (kt 3 2 rfl rd);have vt : ji 0 = true := (kt 2 0 rfl nc);have vu : ji 1 = true := (kt 2 1 rfl nc);have re : m8 34 = .agg #[S ((qR (0 * D - N * 1) (1 * D)).1), S ((qR (0 * D - N * 1) (1 * D)).2)] := gm na;have rh : m8 11 = .pointer (some ⟨fp, 0, none⟩) := f8 lw;have vw := bz ac;have ri := gc lw;have ku : Blk jx (w.heap.size) 22 #[.int .i64 (x0), .int .i64 (x1)] := gd;have vx := bt ku;have kv : Blk jx (gw.heap.size) 22 #[.int .i64 (y0), .int .i64 (y1)] := gg;have vy := bt kv;have kw : Blk jx (gq.heap.size) 25 #[S ((qR N D).1), S ((qR N D).2)] := gh;have vz := bt kw;have ky : Blk jx (gv.heap.size) 25 #[S ((qR M E).1), S ((qR M E).2)] := gi;have v8 := bt ky
 have nd : Blk jx (fp) 25 #[S ([]), S ([])] := gu lw ra;have wc := bt nd;refine SA nd (fun wd jj rj => ?_);have ku := pb jj ku;have kv := pb jj kv;have kw := pb jj kw;have ky := pb jj ky;have ac := plw jj ac;have we := psz jj;refine go ?_;exact ⟨rfl, undef, rfl, fp, rb, ac, om, gj, gk, gl, f7, gm, gp, f8, gc, (ku), (kv), (kw), (ky), (fun wg rk => tf rfl rk), (fun wh => rj)⟩;exact trivial;intro jk jy wi kz rm;obtain ⟨fp, ld, ac, zst, gj, gk, gl, f7, gm, gp, f8, gc, gd, gg, gh, gi, gu, ig⟩ := rm;obtain ⟨jk, rfl⟩ := ovE ld;have wj := bz ac;have ri := gc (kz 6 rfl);have fg : Blk jy (w.heap.size) 22 #[.int .i64 (x0), .int .i64 (x1)] := gd;have wk := bt fg;have fh : Blk jy (gw.heap.size) 22 #[.int .i64 (y0), .int .i64 (y1)] := gg;have wl := bt fh;have en : Blk jy (gq.heap.size) 25 #[S ((qR N D).1), S ((qR N D).2)] := gh;have wm := bt en;have e8 : Blk jy (gv.heap.size) 25 #[S ((qR M E).1), S ((qR M E).2)] := gi;have wn := bt e8;have fe : Blk jy (fp) 25 #[S ((qR (0 * D - N * 1) (1 * D)).1), S ((qR (0 * D - N * 1) (1 * D)).2)] := ig (kz 7 rfl);have wo := bt fe;have rp : jk 35 = .int .i64 (0) := (gp (kz 5 rfl));refine go ?_;refine cl en1017 (hN1 _ (ht.ext ac)) ?_;rintro wp lz jl rfl;have fg := be jl.2 fg;have fh := be jl.2 fh;have en := be jl.2 en;have e8 := be jl.2 e8;have fe := be jl.2 fe;have ac := xt ac jl.2;refine go ?_;refine al inf1032 (fun ws jm rq => ?_)
 have fg := be jm.2 fg;have fh := be jm.2 fh;have en := be jm.2 en;have e8 := be jm.2 e8;have fe := be jm.2 fe;have ac := xt ac jm.2;refine SA rq (fun wt ja fj => ?_);have fg := pb ja fg;have fh := pb ja fh;have en := pb ja en;have e8 := pb ja e8;have fe := pb ja fe;have ac := plw ja ac;have wu := psz ja;refine go ?_;have rr : jk 11 = .pointer (some ⟨fp, 0, none⟩) := (f8 (kz 6 rfl));refine go ?_;refine cl en1017 (hN2 _ (ht.ext ac)) ?_;rintro wv nh jb rfl;have fg := be jb.2 fg;have fh := be jb.2 fh;have en := be jb.2 en;have e8 := be jb.2 e8;have fe := be jb.2 fe;have fj := be jb.2 fj;have ac := xt ac jb.2;refine go ?_;refine al inf1032 (fun ww jc rt => ?_);have fg := be jc.2 fg;have fh := be jc.2 fh;have en := be jc.2 en;have e8 := be jc.2 e8;have fe := be jc.2 fe;have fj := be jc.2 fj;have ac := xt ac jc.2;refine SA rt (fun wx ix fk => ?_);have fg := pb ix fg;have fh := pb ix fh;have en := pb ix en;have e8 := pb ix e8;have fe := pb ix fe;have fj := pb ix fj;have ac := plw ix ac;have wy := psz ix;refine go ?_;refine cl en1017 (hN3 _ (ht.ext ac)) ?_;rintro xa ru iy rfl;have fg := be iy.2 fg;have fh := be iy.2 fh;have en := be iy.2 en;have e8 := be iy.2 e8
 have fe := be iy.2 fe;have fj := be iy.2 fj;have fk := be iy.2 fk;have ac := xt ac iy.2;refine go ?_;refine al inf1032 (fun xb iz ry => ?_);have fg := be iz.2 fg;have fh := be iz.2 fh;have en := be iz.2 en;have e8 := be iz.2 e8;have fe := be iz.2 fe;have fj := be iz.2 fj;have fk := be iz.2 fk;have ac := xt ac iz.2;refine SA ry (fun xc ir fm => ?_);have fg := pb ir fg;have fh := pb ir fh;have en := pb ir en;have e8 := pb ir e8;have fe := pb ir fe;have fj := pb ir fj;have fk := pb ir fk;have ac := plw ir ac;have xd := psz ir;refine go ?_;refine clb en1009 (hc := lOf_ok (by unfold In64; omega) (by unfold In64; omega) om (ht.ext ac)) (hk := ?_);rintro xe xf iu rfl;have fg := be iu.2 fg;have fh := be iu.2 fh;have en := be iu.2 en;have e8 := be iu.2 e8;have fe := be iu.2 fe;have fj := be iu.2 fj;have fk := be iu.2 fk;have fm := be iu.2 fm;have ac := xt ac iu.2;refine cl en1019 (point_ok rfl q9l1 (ht.ext ac)) ?_;rintro xg nj iv rfl;have fg := be iv.2 fg;have fh := be iv.2 fh;have en := be iv.2 en;have e8 := be iv.2 e8;have fe := be iv.2 fe;have fj := be iv.2 fj;have fk := be iv.2 fk;have fm := be iv.2 fm;have ac := xt ac iv.2;refine al inf1032 (fun xh iw rz => ?_);have fg := be iw.2 fg;have fh := be iw.2 fh
 have en := be iw.2 en;have e8 := be iw.2 e8;have fe := be iw.2 fe;have fj := be iw.2 fj;have fk := be iw.2 fk;have fm := be iw.2 fm;have ac := xt ac iw.2;refine SA rz (fun xi ii fo => ?_);have fg := pb ii fg;have fh := pb ii fh;have en := pb ii en;have e8 := pb ii e8;have fe := pb ii fe;have fj := pb ii fj;have fk := pb ii fk;have fm := pb ii fm;have ac := plw ii ac;have xj := psz ii;refine go ?_;refine l_op (k_loadA (cs := [S ((qR 1 1).1), S ((qR 1 1).2), S ((qR 1 1).1), S ((qR 1 1).2)]) (b := nj.heap.size) (o := 0) U1032 rfl sz1032 rfl (Blk.cells fo (i := 0) rfl) ?_);refine l_op (k_loadA (cs := [S ((qR f (tenI (pl))).1), S ((qR f (tenI (pl))).2), S ((qR c (tenI (pl))).1), S ((qR c (tenI (pl))).2)]) (b := lz.heap.size) (o := 0) U1032 rfl sz1032 rfl (Blk.cells fj (i := 0) rfl) ?_);refine cl en1018 (encSub_ok (x := (qR 1 1, qR 1 1)) (y := (qR f (tenI pl), qR c (tenI pl))) (ivr_point rfl q9l1) hiv rfl rfl q9l1 q9l1 rfl rfl qf qc (ht.ext ac)) ?_;rintro xk nk ij rfl;have fg := be ij.2 fg;have fh := be ij.2 fh;have en := be ij.2 en;have e8 := be ij.2 e8;have fe := be ij.2 fe;have fj := be ij.2 fj;have fk := be ij.2 fk;have fm := be ij.2 fm;have fo := be ij.2 fo;have ac := xt ac ij.2;refine go ?_;refine al inf1032 (fun xl ik r6 => ?_)
 have fg := be ik.2 fg;have fh := be ik.2 fh;have en := be ik.2 en;have e8 := be ik.2 e8;have fe := be ik.2 fe;have fj := be ik.2 fj;have fk := be ik.2 fk;have fm := be ik.2 fm;have fo := be ik.2 fo;have ac := xt ac ik.2;refine SA r6 (fun xm gy fq => ?_);have fg := pb gy fg;have fh := pb gy fh;have en := pb gy en;have e8 := pb gy e8;have fe := pb gy fe;have fj := pb gy fj;have fk := pb gy fk;have fm := pb gy fm;have fo := pb gy fo;have ac := plw gy ac;have xn := psz gy;refine go ?_;refine l_op (k_loadA (cs := [S ((qR (1 * tenI pl - c * 1) (1 * tenI pl)).1), S ((qR (1 * tenI pl - c * 1) (1 * tenI pl)).2), S ((qR (1 * tenI pl - f * 1) (1 * tenI pl)).1), S ((qR (1 * tenI pl - f * 1) (1 * tenI pl)).2)]) (b := nk.heap.size) (o := 0) U1032 rfl sz1032 rfl (Blk.cells fq (i := 0) rfl) ?_);refine go ?_;refine l_op (k_loadA (cs := [S ((qR (tenI pl - c) (tenI (pl))).1), S ((qR (tenI pl - c) (tenI (pl))).2), S ((qR (tenI pl - f) (tenI (pl))).1), S ((qR (tenI pl - f) (tenI (pl))).2)]) (b := nh.heap.size) (o := 0) U1032 rfl sz1032 rfl (Blk.cells fk (i := 0) rfl) ?_);refine go ?_;refine l_op (k_neqI (a := (qR (1 * tenI pl - c * 1) (1 * tenI pl), qR (1 * tenI pl - f * 1) (1 * tenI pl))) (b := (qR (tenI pl - c) (tenI (pl)), qR (tenI pl - f) (tenI (pl)))) (q := false) rfl rfl (by rw [decide_eq_true (mirror_eq)]; rfl) ?_)
 refine go ?_;refine cl en49 (qCmpX qa qb (ht.ext ac)) ?_;rintro xo xp gz rfl;have fj := be gz.2 fj;have ac := xt ac gz.2;have zq4q := cmpI_nlt hlt;refine go ?_;refine c_an 6 ?_;refine sf ?_;refine sf_ap (fun xy xz io x4 => by have fj := be io fj;refine go ?_;refine l_op (k_loadA (cs := [S ((qR f (tenI (pl))).1), S ((qR f (tenI (pl))).2), S ((qR c (tenI (pl))).1), S ((qR c (tenI (pl))).2)]) (b := lz.heap.size) (o := 0) U1032 rfl sz1032 rfl (Blk.cells fj (i := 0) rfl) ?_);refine go ?_;exact finp) ?_
 refine sf_ae (V := .agg #[S ((qR 0 1).1), S ((qR 0 1).2)]) (fun x5 x6 g6 x7 => ?_) ?_;refine go ?_;refine clb en1009 (hc := lOf_ok (by unfold In64; omega) (by unfold In64; omega) om (ht.ext (xt ac g6))) (hk := ?_);rintro x8 x9 g7 rfl;have r8 := g7.2;refine go ?_;exact fs ⟨r8, rfl⟩;refine sf_ae (V := .agg #[S ((qR 1 1).1), S ((qR 1 1).2)]) (fun ya yb g8 yc => ?_) ?_;refine go ?_;refine clb en1009 (hc := lOf_ok (by unfold In64; omega) (by unfold In64; omega) om (ht.ext (xt ac g8))) (hk := ?_);rintro yd ye ia rfl;have r9 := ia.2;refine go ?_;exact fs ⟨r9, rfl⟩;refine sf_ap (fun yf yg ip yh => by refine go ?_;refine l_op (k_build (vs := [(0, .agg #[S ((qR 0 1).1), S ((qR 0 1).2)]), (1, .agg #[S ((qR 1 1).1), S ((qR 1 1).2)])]) (cells := #[S ((qR 0 1).1), S ((qR 0 1).2), S ((qR 1 1).1), S ((qR 1 1).2)]) (pl := [(0, 2), (2, 2)]) U1032 inf1032 (by kernel_rfl) rfl (by kernel_rfl) ?_);refine go ?_;exact finp) ?_
 refine sf ?_;intro yi yj ic yl;have ac := xt ac ic.2;with_reducible refine l_drop rfl ?_
 refine go ?_;refine clb en1020 (hc := encWithin_ok (x := (qR f (tenI pl), qR c (tenI pl))) (y := (qR 0 1, qR 1 1)) hiv ⟨0, 1, 1, 1, rfl, rfl, q9l0, q9l1, by decide⟩ rfl rfl qf qc rfl rfl q9l0 q9l1 om om om om (ht.ext ac)) (hk := ?_);rintro ym yn ie rfl;have ac := xt ac ie.2;refine go ?_;exact f_ret1 (t := 6) (v := .bool (true)) rfl ac rfl rfl
end Go.Proofs.YteojhdahhaodoaaGreatDoor
namespace Go.Proofs.YteojhdahhaodoaaGreatDoor
open Go Go.Eng Go.RowKit
def fz (v : Nat) (k : Nat → Bool) : Bool := Nat.rec (motive := fun _ => Bool) (k 0) (fun m _ => k (Nat.succ m)) v
theorem fz_eq (v : Nat) (k : Nat → Bool) : fz v k = k v := by cases v <;> rfl
def bdK (a b : Nat) : Bool := and (Nat.ble a 99999999999999999999999999999999999999999999999999999999999999999999999999999999999999999999999) (Nat.ble b 99999999999999999999999999999999999999999999999999999999999999999999999999999999999999999999999)
theorem bdK_ok {a b : Nat} (h : bdK a b = true) : bdB (a, b) = true := by
  unfold bdK at h
  simp only [Bool.and_eq_true, Nat.ble_eq] at h
  unfold bdB
  simp only [Bool.and_eq_true, decide_eq_true_eq]
  omega
theorem cond_t {c x y : Bool} : cond c x y = true → (c = true ∧ x = true) ∨ (c = false ∧ y = true) := by cases c <;> simp
theorem upn_eq {a b : Nat} (hb : 0 < b) : upn a b = (a + (b - 1)) / b := by
  unfold upn
  have h1 := Nat.div_add_mod a b
  have h2 := Nat.mod_lt a hb
  split
  · rename_i h
    rw [h, Nat.add_zero] at h1
    symm
    rw [Nat.div_eq_iff hb]
    rw [Nat.mul_comm]
    omega
  · rename_i h
    symm
    rw [Nat.div_eq_iff hb, Nat.add_mul, Nat.mul_comm (a / b) b]
    omega
def sumK (g h : Nat → Nat → Nat) (K : Nat → Nat → Bool) (f : Nat) : Nat → Nat → Nat → Nat → Nat → Nat → Bool :=
  Nat.rec (motive := fun _ => Nat → Nat → Nat → Nat → Nat → Nat → Bool) (fun _ _ _ _ _ _ => false)
    (fun _ ih n t1 t2 a1 a2 l => cond (bdK t1 t2) (cond (and (Nat.ble t2 2) (and (Nat.ble 2 n) (Nat.ble (Nat.mul t2 2) (Nat.add l 2))))
      (K (Nat.add a1 t1) (Nat.add (Nat.add a2 t2) (Nat.add t2 4)))
      (fz (g n t1) fun u1 => fz (h n t2) fun u2 => fz (Nat.add a1 t1) fun c1 => fz (Nat.add a2 t2) fun c2 => fz (Nat.succ n) fun n' => ih n' u1 u2 c1 c2 t2)) false) f
theorem sumK_ok {nx : Nat → N2 → N2} {g h : Nat → Nat → Nat} {K : Nat → Nat → Bool} (hg : ∀ n t, 1 ≤ n → nx n t = (g n t.1, h n t.2)) : ∀ {f F n t1 t2 a1 a2 l : Nat}, f ≤ F → 1 ≤ n → sumK g h K f n t1 t2 a1 a2 l = true → ∃ r, sumF nx F n (t1, t2) (a1, a2) l = some r ∧ K r.1 r.2 = true
  | 0, _, _, _, _, _, _, _, _, _, hk => by cases hk
  | f + 1, F, n, t1, t2, a1, a2, l, hF, hn, hk => by
    obtain ⟨G, rfl⟩ : ∃ G, F = G + 1 := ⟨F - 1, by omega⟩
    change cond _ (cond _ _ _) false = true at hk
    rcases cond_t hk with ⟨hb, hk⟩ | ⟨_, hk⟩
    · unfold sumF
      rw [if_pos (bdK_ok hb)]
      rcases cond_t hk with ⟨hs, hk⟩ | ⟨hs, hk⟩
      · simp only [Bool.and_eq_true, Nat.ble_eq] at hs
        rw [if_pos ⟨hs.2.1, hs.1, hs.2.2⟩]
        exact ⟨_, rfl, hk⟩
      · have hs' : ¬ (2 ≤ n ∧ t2 ≤ 2 ∧ t2 * 2 ≤ l + 2) := fun hc => by
          have : and (Nat.ble t2 2) (and (Nat.ble 2 n) (Nat.ble (Nat.mul t2 2) (Nat.add l 2))) = true := by
            simp only [Bool.and_eq_true, Nat.ble_eq]; exact ⟨hc.2.1, hc.1, hc.2.2⟩
          rw [this] at hs; cases hs
        rw [if_neg hs', hg n _ hn]
        rw [fz_eq, fz_eq, fz_eq, fz_eq, fz_eq] at hk
        have hk' : sumK g h K f (n + 1) (g n t1) (h n t2) (a1 + t1) (a2 + t2) t2 = true := hk
        exact sumK_ok hg (by omega) (by omega) hk'
    · cases hk
theorem sumK_p {nx : Nat → N2 → N2} {g h : Nat → Nat → Nat} {K : Nat → Nat → Bool} {f t1 t2 : Nat} (hg : ∀ n t, 1 ≤ n → nx n t = (g n t.1, h n t.2)) (hf : f ≤ 1000) (hk : sumK g h K f 1 t1 t2 0 0 0 = true) : ∃ r, sumP nx (t1, t2) = some r ∧ K r.1 r.2 = true :=
  sumK_ok hg hf (Nat.le_refl 1) hk
def sqK (S S1 : Nat) (K : Nat → Nat → Bool) (h : Nat) : Nat → Nat → Bool :=
  Nat.rec (motive := fun _ => Nat → Nat → Bool) (fun a b => cond (bdK a b) (K a b) false) (fun _ ih a b => cond (bdK a b) (fz (Nat.div (Nat.mul a a) S) fun u => fz (Nat.div (Nat.add (Nat.mul b b) S1) S) fun v => ih u v) false) h
theorem sqK_ok {S S1 : Nat} {K : Nat → Nat → Bool} (hS : 0 < S) (h1 : S1 = S - 1) : ∀ {h a b : Nat}, sqK S S1 K h a b = true → ∃ r, sqF S h (a, b) = some r ∧ K r.1 r.2 = true
  | 0, a, b, hk => by
    change cond _ _ _ = true at hk
    rcases cond_t hk with ⟨hb, hk⟩ | ⟨_, hk⟩
    · unfold sqF; rw [if_pos (bdK_ok hb)]; exact ⟨_, rfl, hk⟩
    · cases hk
  | h + 1, a, b, hk => by
    change cond _ _ _ = true at hk
    rcases cond_t hk with ⟨hb, hk⟩ | ⟨_, hk⟩
    · unfold sqF; rw [if_pos (bdK_ok hb)]
      rw [fz_eq, fz_eq] at hk
      have hk' : sqK S S1 K h (Nat.div (Nat.mul a a) S) (Nat.div (Nat.add (Nat.mul b b) S1) S) = true := hk
      have h2 := sqK_ok hS h1 hk'
      rw [show tmP S (a, b) (a, b) = (Nat.div (Nat.mul a a) S, Nat.div (Nat.add (Nat.mul b b) S1) S) by unfold tmP; rw [upn_eq hS, h1]; rfl]
      exact h2
    · cases hk
def halfK (S : Nat) (K : Nat → Nat → Nat → Bool) (f : Nat) : Nat → Nat → Nat → Bool :=
  Nat.rec (motive := fun _ => Nat → Nat → Nat → Bool) (fun _ _ _ => false) (fun _ ih a b h => cond (Nat.ble (Nat.mul b 2) S) (K a b h) (fz (Nat.div a 2) fun u => fz (Nat.div (Nat.add b 1) 2) fun v => fz (Nat.succ h) fun i => ih u v i)) f
theorem halfK_ok {S : Nat} {K : Nat → Nat → Nat → Bool} : ∀ {f F a b h : Nat}, f ≤ F → halfK S K f a b h = true → ∃ p, halfF S F (a, b) h = some p ∧ K p.1.1 p.1.2 p.2 = true
  | 0, _, _, _, _, _, hk => by cases hk
  | f + 1, F, a, b, h, hF, hk => by
    obtain ⟨G, rfl⟩ : ∃ G, F = G + 1 := ⟨F - 1, by omega⟩
    change cond _ _ _ = true at hk
    unfold halfF
    rcases cond_t hk with ⟨hb, hk⟩ | ⟨hb, hk⟩
    · have : b * 2 ≤ S := by simpa using hb
      rw [if_neg (by simp only; omega)]; exact ⟨_, rfl, hk⟩
    · have : ¬ b * 2 ≤ S := fun hc => by rw [show Nat.ble (Nat.mul b 2) S = true from Nat.ble_eq_true_of_le hc] at hb; cases hb
      rw [if_pos (by simp only; omega)]
      rw [fz_eq, fz_eq, fz_eq] at hk
      have hk' : halfK S K f (Nat.div a 2) (Nat.div (Nat.add b 1) 2) (h + 1) = true := hk
      have h2 := halfK_ok (F := G) (by omega) hk'
      rw [show byP (a, b) 1 2 = (Nat.div a 2, Nat.div (Nat.add b 1) 2) by unfold byP; rw [upn_eq (by decide), Nat.mul_one, Nat.mul_one]; rfl]
      exact h2
def expK (S S1 : Nat) (K : Nat → Nat → Bool) (a b : Nat) : Bool :=
  cond (bdK a b) (halfK S (fun y1 y2 h => sumK (fun n t => Nat.div (Nat.div (Nat.mul t y1) S) n) (fun n t => Nat.div (Nat.add (Nat.div (Nat.add (Nat.mul t y2) S1) S) (Nat.pred n)) n) (sqK S S1 K h) 100 1 S S 0 0 0) 60 a b 0) false
theorem expK_ok {S S1 a b : Nat} {K : Nat → Nat → Bool} (hS : 0 < S) (h1 : S1 = S - 1) (hk : expK S S1 K a b = true) : ∃ r, expP S (a, b) = some r ∧ K r.1 r.2 = true := by
  unfold expK at hk
  rcases cond_t hk with ⟨hb, hk⟩ | ⟨_, hk⟩
  · obtain ⟨p, hp, hk⟩ := halfK_ok (F := 200) (by decide) hk
    obtain ⟨s, hs, hk⟩ := sumK_p (nx := expN S p.1) (fun n t hn => by
      unfold expN byP tmP
      simp only [Nat.mul_one]
      rw [upn_eq hS, upn_eq (by omega), h1]; rfl) (by decide) hk
    obtain ⟨r, hr, hk⟩ := sqK_ok hS h1 hk
    refine ⟨r, ?_, hk⟩
    unfold expP
    rw [if_pos (bdK_ok hb), hp, Option.bind_some, Nat.one_mul, hs, Option.bind_some]
    exact hr
  · cases hk
def artK (S S1 : Nat) (K : Nat → Nat → Bool) (a b : Nat) : Bool :=
  cond (bdK a b) (fz (Nat.div (Nat.mul a a) S) fun q1 => fz (Nat.div (Nat.add (Nat.mul b b) S1) S) fun q2 => cond (bdK q1 q2)
    (sumK (fun n t => Nat.div (Nat.mul (Nat.div (Nat.mul t q1) S) (Nat.pred (Nat.mul 2 n))) (Nat.succ (Nat.mul 2 n))) (fun n t => Nat.div (Nat.add (Nat.mul (Nat.div (Nat.add (Nat.mul t q2) S1) S) (Nat.pred (Nat.mul 2 n))) (Nat.mul 2 n)) (Nat.succ (Nat.mul 2 n))) (fun a1 a2 => K (Nat.mul a1 2) (Nat.mul a2 2)) 200 1 a b 0 0 0) false) false
theorem artK_ok {S S1 a b : Nat} {K : Nat → Nat → Bool} (hS : 0 < S) (h1 : S1 = S - 1) (hk : artK S S1 K a b = true) : ∃ r, artP S (a, b) = some r ∧ K r.1 r.2 = true := by
  unfold artK at hk
  rcases cond_t hk with ⟨hb, hk⟩ | ⟨_, hk⟩
  · simp only [fz_eq] at hk
    have hq : tmP S (a, b) (a, b) = (Nat.div (Nat.mul a a) S, Nat.div (Nat.add (Nat.mul b b) S1) S) := by unfold tmP; rw [upn_eq hS, h1]; rfl
    rcases cond_t hk with ⟨hc, hk⟩ | ⟨_, hk⟩
    · obtain ⟨s, hs, hk⟩ := sumK_p (nx := artN S (Nat.div (Nat.mul a a) S, Nat.div (Nat.add (Nat.mul b b) S1) S)) (fun n t hn => by
        unfold artN byP tmP
        rw [upn_eq hS, upn_eq (by omega), h1, show 2 * n + 1 - 1 = 2 * n from rfl]; rfl) (by decide) hk
      refine ⟨byP s 2 1, ?_, ?_⟩
      · unfold artP
        rw [if_pos (bdK_ok hb), hq, if_pos (bdK_ok hc), hs]; rfl
      · unfold byP
        rw [upn_eq (by decide), Nat.div_one, Nat.div_one]
        exact hk
    · cases hk
  · cases hk
def lgK (n : Nat) (K : Nat → Nat → Bool) (f : Nat) : Nat → Nat → Bool :=
  Nat.rec (motive := fun _ => Nat → Nat → Bool) (fun _ _ => false) (fun _ ih d k => cond (Nat.ble n (Nat.mul 2 d)) (K d k) (fz (Nat.mul 2 d) fun u => fz (Nat.succ k) fun i => ih u i)) f
theorem lgK_ok {n : Nat} {K : Nat → Nat → Bool} : ∀ {f F d k : Nat}, f ≤ F → lgK n K f d k = true → ∃ p, lgF F n d k = some p ∧ K p.1 p.2 = true
  | 0, _, _, _, _, hk => by cases hk
  | f + 1, F, d, k, hF, hk => by
    obtain ⟨G, rfl⟩ : ∃ G, F = G + 1 := ⟨F - 1, by omega⟩
    change cond _ _ _ = true at hk
    unfold lgF
    rcases cond_t hk with ⟨hb, hk⟩ | ⟨hb, hk⟩
    · have : n ≤ 2 * d := by simpa using hb
      rw [if_neg (by omega)]; exact ⟨_, rfl, hk⟩
    · have : ¬ n ≤ 2 * d := fun hc => by rw [show Nat.ble n (Nat.mul 2 d) = true from Nat.ble_eq_true_of_le hc] at hb; cases hb
      rw [if_pos (by omega)]
      rw [fz_eq, fz_eq] at hk
      have hk' : lgK n K f (2 * d) (k + 1) = true := hk
      exact lgK_ok (by omega) hk'
def logK (S S1 x1 x2 : Nat) (K : Nat → Nat → Bool) (n d : Nat) : Bool :=
  lgK n (fun p k => fz (Nat.mul (Nat.sub n p) S) fun u => artK S S1 (fun a1 a2 => K (Nat.add a1 (Nat.mul x1 k)) (Nat.add a2 (Nat.mul x2 k))) (Nat.div u (Nat.add n p)) (Nat.div (Nat.add u (Nat.pred (Nat.add n p))) (Nat.add n p))) 60 d 0
theorem lg_pos : ∀ {f n d k : Nat} {p : Nat × Nat}, 0 < d → lgF f n d k = some p → 0 < p.1
  | 0, _, _, _, _, _, h => by cases h
  | f + 1, n, d, k, p, hd, h => by
    unfold lgF at h
    split at h
    · exact lg_pos (by omega) h
    · cases h; exact hd
theorem logK_ok {S S1 n d : Nat} {x : N2} {K : Nat → Nat → Bool} (hS : 0 < S) (h1 : S1 = S - 1) (hx : artP S (ofP S 1 3) = some x) (hn : n < 10 ^ 80) (hd : d < 10 ^ 80) (h0 : 0 < d) (hdn : d ≤ n) (hk : logK S S1 x.1 x.2 K n d = true) : ∃ r, logP S n d = some r ∧ K r.1 r.2 = true := by
  unfold logK at hk
  obtain ⟨p, hp, hk⟩ := lgK_ok (F := 100) (by decide) hk
  have hp0 := lg_pos h0 hp
  simp only [fz_eq] at hk
  obtain ⟨a, ha, hk⟩ := artK_ok hS h1 hk
  refine ⟨plP a (byP x p.2 1), ?_, ?_⟩
  · unfold logP
    rw [if_pos ⟨hn, hd, h0, hdn⟩, hp, Option.bind_some, hx, Option.bind_some]
    have : ofP S (n - p.1) (n + p.1) = (Nat.div (Nat.mul (Nat.sub n p.1) S) (Nat.add n p.1), Nat.div (Nat.add (Nat.mul (Nat.sub n p.1) S) (Nat.pred (Nat.add n p.1))) (Nat.add n p.1)) := by
      unfold ofP; rw [upn_eq (by omega)]; rfl
    rw [this, ha]; rfl
  · unfold plP byP
    rw [upn_eq (by decide), Nat.div_one, Nat.div_one]
    exact hk
end Go.Proofs.YteojhdahhaodoaaGreatDoor
namespace Go.Proofs.YteojhdahhaodoaaGreatDoor
open Go Go.Eng Go.RowKit
theorem fl_n {u pl k : Nat} : flI (u : Int) (tenI (pl + k)) (tenI pl) = ((u / 10 ^ k : Nat) : Int) := by
  unfold flI tenI
  rw [← Int.natCast_mul, ← Int.natCast_ediv, Nat.pow_add, Nat.mul_comm (10 ^ pl) (10 ^ k), Nat.mul_div_mul_right _ _ (Nat.pow_pos (by decide))]
theorem cl_n {u pl k : Nat} : clI (u : Int) (tenI (pl + k)) (tenI pl) = ((upn u (10 ^ k) : Nat) : Int) := by
  have h1 := fl_n (u := u) (pl := pl) (k := k)
  unfold flI at h1
  unfold clI upn
  rw [h1]
  have hp : 0 < 10 ^ pl := Nat.pow_pos (by decide)
  have h2 : (u : Int) * tenI pl % tenI (pl + k) = ((u % 10 ^ k * 10 ^ pl : Nat) : Int) := by
    unfold tenI
    rw [← Int.natCast_mul, ← Int.natCast_emod, Nat.pow_add, Nat.mul_comm (10 ^ pl) (10 ^ k), Nat.mul_mod_mul_right]
  rw [h2]
  by_cases h : u % 10 ^ k = 0
  · rw [if_pos h, if_pos (by rw [h, Nat.zero_mul]; rfl)]
  · have h4 : 0 < u % 10 ^ k * 10 ^ pl := Nat.mul_pos (by omega) hp
    rw [if_neg h, if_neg (by omega)]; rfl
theorem flI_neg {a b t : Int} (hb : 0 < b) : flI (-a) b t = - clI a b t := by
  unfold flI clI
  rw [Int.neg_mul, Int.neg_ediv]
  by_cases h : a * t % b = 0
  · rw [if_pos h, if_pos (Int.dvd_of_emod_eq_zero h)]; omega
  · rw [if_neg h, if_neg (fun hd => h (Int.emod_eq_zero_of_dvd hd)), Int.sign_eq_one_of_pos hb]; omega
theorem clI_neg {a b t : Int} (hb : 0 < b) : clI (-a) b t = - flI a b t := by
  have h := flI_neg (a := -a) (t := t) hb
  rw [Int.neg_neg] at h
  omega
theorem cl_fl_le {a b t : Int} : flI a b t ≤ clI a b t := by unfold flI clI; split <;> omega
def cellK (k a b : Nat) (K : Nat → Nat → Bool) : Bool :=
  cond (and (Nat.ble a b) (Nat.ble b 1000000000000000000000000000000000000000000000000000000000000)) (fz (Nat.div a k) fun f => fz (Nat.div (Nat.add b (Nat.pred k)) k) fun c => cond (Nat.ble c (Nat.succ f)) (K f c) false) false
theorem cellK_ok {a b : Nat} {K : Nat → Nat → Bool} (pl : Nat) (h : cellK 1000000000000000 a b K = true) : ∃ f c : Nat, CellR pl ((a : Int), (b : Int)) (f : Int) (c : Int) ∧ CellR pl (-(b : Int), -(a : Int)) (-(c : Int)) (-(f : Int)) ∧ K f c = true ∧ a ≤ b := by
  unfold cellK at h
  rcases cond_t h with ⟨h1, h⟩ | ⟨_, h⟩
  · simp only [Bool.and_eq_true, Nat.ble_eq] at h1
    obtain ⟨h1, h2⟩ := h1
    simp only [fz_eq] at h
    have hk : (10 : Nat) ^ 15 = 1000000000000000 := by decide
    rcases cond_t h with ⟨h3, h⟩ | ⟨_, h⟩
    · rw [Nat.ble_eq] at h3
      have e1 : Nat.div a 1000000000000000 = a / 10 ^ 15 := by rw [hk]; rfl
      have e2 : Nat.div (Nat.add b (Nat.pred 1000000000000000)) 1000000000000000 = upn b (10 ^ 15) := by rw [upn_eq (by decide), hk]; rfl
      rw [e1, e2] at h h3
      have f1 : a / 10 ^ 15 ≤ a := Nat.div_le_self _ _
      have f2 : upn b (10 ^ 15) ≤ b := upn_le (by decide)
      have hle : ((a / 10 ^ 15 : Nat) : Int) ≤ ((upn b (10 ^ 15) : Nat) : Int) := by
        have : a / 10 ^ 15 ≤ upn b (10 ^ 15) := by
          rw [upn_eq (by decide)]; exact Nat.div_le_div_right (by omega)
        omega
      have l1 : (1000000000000000000000000000000000000000000000000000000000000 : Nat) < 10 ^ 70 := by decide
      have l2 : (1000000000000000000000000000000000000000000000000000000000000 : Nat) < 10 ^ 90 := by decide
      refine ⟨a / 10 ^ 15, upn b (10 ^ 15), ⟨by simp only; omega, by simp only; omega, by simp only; omega, fl_n, cl_n, by omega, by omega, hle, by omega⟩, ⟨by simp only; omega, by simp only; omega, by simp only; omega, ?_, ?_, by omega, by omega, by omega, by omega⟩, h, h1⟩
      · rw [flI_neg (ten_pos _)]; simp only [cl_n]
      · rw [clI_neg (ten_pos _)]; simp only [fl_n]
    · cases h
  · cases h
def allN (ck : Nat → Bool) (n : Nat) : Bool := Nat.rec (motive := fun _ => Bool) true (fun m ih => cond (ck (Nat.succ m)) ih false) n
theorem allN_ok {ck : Nat → Bool} : ∀ {n : Nat}, allN ck n = true → ∀ i, 1 ≤ i → i ≤ n → ck i = true
  | 0, _, i, h1, h2 => by omega
  | n + 1, h, i, h1, h2 => by
    change cond _ _ _ = true at h
    rcases cond_t h with ⟨h3, h⟩ | ⟨_, h⟩
    · by_cases e : i = n + 1
      · subst e; exact h3
      · have h' : allN ck n = true := h
        exact allN_ok h' i h1 (by omega)
    · cases h
def expCk (N d : Nat) : Bool := fz (Nat.mul N 10000000000000000000000000) fun u => expK 10000000000000000000000000 9999999999999999999999999 (fun e1 e2 =>
    cond (cellK 1000000000000000 e1 e2 fun _ c => Nat.ble (Nat.mul (Nat.add N d) 10000000000) (Nat.mul c d))
      (cond (Nat.ble 1 e1) (fz (Nat.div 100000000000000000000000000000000000000000000000000 e2) fun r1 => fz (Nat.div (Nat.add 100000000000000000000000000000000000000000000000000 (Nat.pred e1)) e1) fun r2 => cellK 1000000000000000 r1 r2 fun _ c => Nat.ble (Nat.mul d 10000000000) (Nat.add (Nat.mul c d) (Nat.mul N 10000000000))) false) false)
  (Nat.div u d) (Nat.div (Nat.add u (Nat.pred d)) d)
abbrev S25 : Nat := 10000000000000000000000000
def ExR (N : Int) (d : Nat) : Prop := ∃ r, ∃ f c : Int, exP S25 N d = some r ∧ CellR 10 (zP r) f c ∧ (N + d) * 10000000000 ≤ c * d ∧ 0 ≤ f
theorem of_eq {S N d : Nat} (hd : 0 < d) : ofP S N d = (Nat.div (Nat.mul N S) d, Nat.div (Nat.add (Nat.mul N S) (Nat.pred d)) d) := by unfold ofP; rw [upn_eq hd]; rfl
theorem expCk_ok {N d : Nat} (hN : 0 < N) (hN9 : N < 10 ^ 90) (hd : 0 < d) (hd9 : d < 10 ^ 90) (h : expCk N d = true) : ExR (N : Int) d ∧ ExR (-(N : Int)) d := by
  unfold expCk at h
  rw [fz_eq] at h
  rw [show (Nat.div (Nat.mul N 10000000000000000000000000) d) = (ofP S25 N d).1 by rw [of_eq hd], show (Nat.div (Nat.add (Nat.mul N 10000000000000000000000000) (Nat.pred d)) d) = (ofP S25 N d).2 by rw [of_eq hd]] at h
  obtain ⟨e, he, h⟩ := expK_ok (by decide) (by decide) h
  rcases cond_t h with ⟨h1, h⟩ | ⟨_, h⟩
  · rcases cond_t h with ⟨h2, h⟩ | ⟨_, h⟩
    · simp only [fz_eq] at h
      rw [Nat.ble_eq] at h2
      obtain ⟨f, c, c1, _, c3, c4⟩ := cellK_ok 10 h1
      obtain ⟨f', c', d1, _, d3, d4⟩ := cellK_ok 10 h
      rw [Nat.ble_eq] at c3 d3
      constructor
      · refine ⟨e, f, c, ?_, c1, ?_, by omega⟩
        · unfold exP
          rw [if_pos ⟨by omega, hd9, hd⟩, show ((N : Int)).natAbs = N from rfl, he, Option.bind_some, if_neg (by omega)]
        · have : ((((N + d) * 10000000000 : Nat)) : Int) ≤ ((c * d : Nat) : Int) := Int.ofNat_le.2 c3
          rw [Int.natCast_mul, Int.natCast_mul, Int.natCast_add] at this
          exact this
      · have e3 : ovP S25 (1 * S25, 1 * S25) e = (Nat.div 100000000000000000000000000000000000000000000000000 e.2, Nat.div (Nat.add 100000000000000000000000000000000000000000000000000 (Nat.pred e.1)) e.1) := by
          unfold ovP
          rw [upn_eq (by omega)]; rfl
        refine ⟨(Nat.div 100000000000000000000000000000000000000000000000000 e.2, Nat.div (Nat.add 100000000000000000000000000000000000000000000000000 (Nat.pred e.1)) e.1), f', c', ?_, d1, ?_, by omega⟩
        · unfold exP
          rw [if_pos ⟨by omega, hd9, hd⟩, show (-(N : Int)).natAbs = N by omega, he, Option.bind_some, if_pos (by omega), if_pos ⟨by omega, by omega⟩, e3]
        · have : (((d * 10000000000 : Nat)) : Int) ≤ ((c' * d + N * 10000000000 : Nat) : Int) := Int.ofNat_le.2 d3
          rw [Int.natCast_mul, Int.natCast_add, Int.natCast_mul, Int.natCast_mul] at this
          rw [Int.add_mul, Int.neg_mul]
          have h5 : ((10000000000 : Nat) : Int) = 10000000000 := rfl
          rw [h5] at this
          omega
    · cases h
  · cases h
def expRow (d : Nat) : Bool := allN (fun N => cond (Nat.beq (Nat.gcd N d) 1) (expCk N d) true) (Nat.mul 19 d)
def expRows (lo n : Nat) : Bool := allN (fun i => fz (Nat.add lo i) expRow) n
theorem expRows_ok {lo n N d : Nat} (h : expRows lo n = true) (hl : lo < d) (hh : d ≤ lo + n) (hN : 0 < N) (h19 : N ≤ 19 * d) (hd : d ≤ 1000) (hg : Nat.gcd N d = 1) : ExR (N : Int) d ∧ ExR (-(N : Int)) d := by
  unfold expRows at h
  have h1 := allN_ok h (d - lo) (by omega) (by omega)
  rw [fz_eq, show Nat.add lo (d - lo) = d from by show lo + (d - lo) = d; omega] at h1
  unfold expRow at h1
  have h2 := allN_ok h1 N hN h19
  have l1 : 19 * 1000 < 10 ^ 90 := by decide
  rcases cond_t h2 with ⟨_, h3⟩ | ⟨h3, _⟩
  · exact expCk_ok hN (by omega) (by omega) (by omega) h3
  · rw [hg] at h3; cases h3
def logCk (x1 x2 n d : Nat) : Bool := logK 10000000000000000000000000 9999999999999999999999999 x1 x2 (fun u1 u2 => cellK 1000000000000000 u1 u2 fun f c => and (Nat.ble (Nat.add (Nat.mul f d) (Nat.mul d 10000000000)) (Nat.mul n 10000000000)) (Nat.ble (Nat.mul n 10000000000) (Nat.add (Nat.mul c n) (Nat.mul d 10000000000)))) n d
def LgR (n d : Nat) : Prop := ∃ r, ∃ f c : Int, lgB S25 n d = some r ∧ CellR 10 r f c ∧ f * d ≤ ((n : Int) - d) * 10000000000
theorem logCk_ok {x : N2} {n d : Nat} (hx : artP S25 (ofP S25 1 3) = some x) (hd : 0 < d) (hdn : d < n) (hn : n < 10 ^ 80) (h : logCk x.1 x.2 n d = true) : LgR n d ∧ LgR d n := by
  obtain ⟨u, hu, h⟩ := logK_ok (by decide) (by decide) hx hn (by omega) hd (by omega) h
  obtain ⟨f, c, c1, c2, c3, _⟩ := cellK_ok 10 h
  simp only [Bool.and_eq_true, Nat.ble_eq] at c3
  obtain ⟨c3, c5⟩ := c3
  have h5 : ((10000000000 : Nat) : Int) = 10000000000 := rfl
  constructor
  · refine ⟨zP u, f, c, ?_, c1, ?_⟩
    · unfold lgB
      rw [if_pos ⟨hn, by omega, hd, by omega⟩, if_neg (by omega), hu]; rfl
    · have : ((f * d + d * 10000000000 : Nat) : Int) ≤ ((n * 10000000000 : Nat) : Int) := Int.ofNat_le.2 c3
      rw [Int.natCast_add, Int.natCast_mul, Int.natCast_mul, Int.natCast_mul, h5] at this
      omega
  · refine ⟨_, _, _, ?_, c2, ?_⟩
    · unfold lgB
      rw [if_pos ⟨by omega, hn, by omega, hd⟩, if_pos hdn, hu]
      show some ((0 : Int) - (u.2 : Int), (0 : Int) - (u.1 : Int)) = _
      rw [Int.zero_sub, Int.zero_sub]
    · have : ((n * 10000000000 : Nat) : Int) ≤ ((c * n + d * 10000000000 : Nat) : Int) := Int.ofNat_le.2 c5
      rw [Int.natCast_add, Int.natCast_mul, Int.natCast_mul, Int.natCast_mul, h5] at this
      rw [Int.neg_mul]
      omega
def logRow (x1 x2 d : Nat) : Bool := allN (fun i => fz (Nat.add d i) fun n => cond (Nat.beq (Nat.gcd n d) 1) (logCk x1 x2 n d) true) (Nat.sub 999 d)
def logRows (x1 x2 lo n : Nat) : Bool := allN (fun i => fz (Nat.add lo i) (logRow x1 x2)) n
theorem logRows_ok {x : N2} {lo m n d : Nat} (hx : artP S25 (ofP S25 1 3) = some x) (h : logRows x.1 x.2 lo m = true) (hl : lo < d) (hh : d ≤ lo + m) (hdn : d < n) (h9 : n ≤ 999) (hg : Nat.gcd n d = 1) : LgR n d ∧ LgR d n := by
  unfold logRows at h
  have h1 := allN_ok h (d - lo) (by omega) (by omega)
  rw [fz_eq, show Nat.add lo (d - lo) = d from by show lo + (d - lo) = d; omega] at h1
  unfold logRow at h1
  have h2 := allN_ok h1 (n - d) (by omega) (by show n - d ≤ 999 - d; omega)
  rw [fz_eq, show Nat.add d (n - d) = n from by show d + (n - d) = n; omega] at h2
  have l1 : 999 < 10 ^ 80 := by decide
  rcases cond_t h2 with ⟨_, h3⟩ | ⟨h3, _⟩
  · exact logCk_ok hx (by omega) hdn (by omega) h3
  · rw [hg] at h3; cases h3
end Go.Proofs.YteojhdahhaodoaaGreatDoor
namespace Go.Proofs.YteojhdahhaodoaaGreatDoor
open Go Go.Eng Go.RowKit
def hnK (S S1 c1 c2 : Nat) (K : Nat → Nat → Bool) (n d : Nat) : Bool :=
  fz (Nat.mul n S) fun u => fz (Nat.div u d) fun v1 => fz (Nat.div (Nat.add u (Nat.pred d)) d) fun v2 => fz (Nat.div (Nat.mul v1 v1) S) fun q1 => fz (Nat.div (Nat.add (Nat.mul v2 v2) S1) S) fun q2 =>
  cond (and (bdK n d) (and (bdK v1 v2) (bdK q1 q2))) (sumK (fun n t => Nat.div (Nat.div (Nat.mul t q1) S) (Nat.succ (Nat.mul 2 n))) (fun n t => Nat.div (Nat.add (Nat.div (Nat.add (Nat.mul t q2) S1) S) (Nat.mul 2 n)) (Nat.succ (Nat.mul 2 n)))
    (fun s1 s2 => cond (bdK s1 s2) (expK S S1 (fun e1 e2 => fz (Nat.div (Nat.mul e1 c1) S) fun m1 => fz (Nat.div (Nat.add (Nat.mul e2 c2) S1) S) fun m2 => cond (and (Nat.ble 1 m1) (Nat.ble 1 m2)) (fz (Nat.div (Nat.mul s1 S) m2) fun r1 => fz (Nat.div (Nat.add (Nat.mul s2 S) (Nat.pred m1)) m1) fun r2 => K r1 r2) false) (Nat.div q1 2) (Nat.div (Nat.succ q2) 2)) false) 500 1 v1 v2 0 0 0) false
theorem hnK_ok {S S1 pl n d : Nat} {c : N2} {K : Nat → Nat → Bool} (hS : 0 < S) (h1 : S1 = S - 1) (hc : rootP S (byP (piN pl, piN pl + 1) 2 1) = some c) (hcb : bdB c = true) (hd : 0 < d) (hk : hnK S S1 c.1 c.2 K n d = true) : ∃ r, hnP S pl n d = some r ∧ K r.1 r.2 = true := by
  unfold hnK at hk
  rw [fz_eq, fz_eq, fz_eq, fz_eq, fz_eq] at hk
  rcases cond_t hk with ⟨hb, hk⟩ | ⟨_, hk⟩
  · simp only [Bool.and_eq_true] at hb
    have e1 : (Nat.div (Nat.mul n S) d, Nat.div (Nat.add (Nat.mul n S) (Nat.pred d)) d) = ofP S n d := (of_eq hd).symm
    rw [show Nat.div (Nat.mul n S) d = (ofP S n d).1 from congrArg Prod.fst e1, show Nat.div (Nat.add (Nat.mul n S) (Nat.pred d)) d = (ofP S n d).2 from congrArg Prod.snd e1] at hb hk
    have e2 : (Nat.div (Nat.mul (ofP S n d).1 (ofP S n d).1) S, Nat.div (Nat.add (Nat.mul (ofP S n d).2 (ofP S n d).2) S1) S) = tmP S (ofP S n d) (ofP S n d) := by unfold tmP; rw [upn_eq hS, h1]; rfl
    rw [show Nat.div (Nat.mul (ofP S n d).1 (ofP S n d).1) S = (tmP S (ofP S n d) (ofP S n d)).1 from congrArg Prod.fst e2, show Nat.div (Nat.add (Nat.mul (ofP S n d).2 (ofP S n d).2) S1) S = (tmP S (ofP S n d) (ofP S n d)).2 from congrArg Prod.snd e2] at hb hk
    obtain ⟨s, hs, hk⟩ := sumK_p (nx := hnN S (tmP S (ofP S n d) (ofP S n d))) (fun n t hn => by
      unfold hnN byP
      simp only [Nat.mul_one]
      rw [upn_eq (by omega), show 2 * n + 1 - 1 = 2 * n from rfl]
      unfold tmP
      simp only []
      rw [upn_eq hS, h1]; rfl) (by decide) hk
    rcases cond_t hk with ⟨hsb, hk⟩ | ⟨_, hk⟩
    · obtain ⟨e, he, hk⟩ := expK_ok hS h1 hk
      simp only [fz_eq] at hk
      rcases cond_t hk with ⟨hm, hk⟩ | ⟨_, hk⟩
      · simp only [Bool.and_eq_true, Nat.ble_eq] at hm
        have e3 : (Nat.div (Nat.mul e.1 c.1) S, Nat.div (Nat.add (Nat.mul e.2 c.2) S1) S) = tmP S e c := by unfold tmP; rw [upn_eq hS, h1]; rfl
        rw [show Nat.div (Nat.mul e.1 c.1) S = (tmP S e c).1 from congrArg Prod.fst e3, show Nat.div (Nat.add (Nat.mul e.2 c.2) S1) S = (tmP S e c).2 from congrArg Prod.snd e3] at hm hk
        refine ⟨ovP S s (tmP S e c), ?_, ?_⟩
        · unfold hnP
          rw [if_pos ⟨bdK_ok hb.1, hd, bdK_ok hb.2.1, bdK_ok hb.2.2⟩, hs, Option.bind_some]
          rw [show byP (tmP S (ofP S n d) (ofP S n d)) 1 2 = (Nat.div (tmP S (ofP S n d) (ofP S n d)).1 2, Nat.div (Nat.succ (tmP S (ofP S n d) (ofP S n d)).2) 2) by unfold byP; rw [upn_eq (by decide), Nat.mul_one, Nat.mul_one]; rfl, he, Option.bind_some, hc, Option.bind_some, if_pos ⟨bdK_ok hsb, hcb, by omega, by omega⟩]
        · unfold ovP
          rw [upn_eq (by omega)]
          exact hk
      · cases hk
    · cases hk
  · cases hk
end Go.Proofs.YteojhdahhaodoaaGreatDoor
namespace Go.Proofs.YteojhdahhaodoaaGreatDoor
open Go Go.Eng Go.RowKit
structure FSt where
  a : Nat
  b : Nat
  c : Nat
  d : Nat
  lf : Nat
  lc : Nat
def farK (ck : Nat → Nat → (Nat → Nat → Bool) → Bool) (s : FSt) (m : Nat) : Nat → Nat → Nat → Nat → Nat → Nat → Bool :=
  Nat.rec (motive := fun _ => Nat → Nat → Nat → Nat → Nat → Nat → Bool) (fun a b c d f g => and (Nat.beq a s.a) (and (Nat.beq b s.b) (and (Nat.beq c s.c) (and (Nat.beq d s.d) (and (Nat.beq f s.lf) (Nat.beq g s.lc))))))
    (fun _ ih a b c d lf lc => ck a b fun f g => cond (and (Nat.ble lf f) (Nat.ble lc g)) (fz (Nat.div (Nat.add 50 b) d) fun k => fz (Nat.sub (Nat.mul k c) a) fun c' => fz (Nat.sub (Nat.mul k d) b) fun d' => ih c d c' d' f g) false) m
structure FInv (s : FSt) : Prop where
  a1 : 0 < s.a
  adj : s.b * s.c = s.a * s.d + 1
  far : 50 < s.b + s.d
  b1 : 0 < s.b
  b2 : s.b ≤ 50
  d1 : 0 < s.d
  d2 : s.d ≤ 50
def InS (s t : FSt) (n d : Nat) : Prop := 0 < d ∧ d ≤ 50 ∧ Nat.gcd n d = 1 ∧ s.a * d ≤ n * s.b ∧ n * t.b < t.a * d
def Seg (P : Nat → Nat → Nat → Nat → Prop) (s t : FSt) : Prop :=
  s.lf ≤ t.lf ∧ s.lc ≤ t.lc ∧ ∀ n d, InS s t n d → ∃ f c, P n d f c ∧ s.lf ≤ f ∧ s.lc ≤ c ∧ f ≤ t.lf ∧ c ≤ t.lc ∧ ∀ n' d', InS s t n' d' → n * d' < n' * d → ∃ f' c', P n' d' f' c' ∧ f ≤ f' ∧ c ≤ c'
theorem Seg.trans {P : Nat → Nat → Nat → Nat → Prop} {s t u : FSt} (h1 : Seg P s t) (h2 : Seg P t u) (hb : 0 < s.b ∧ 0 < t.b ∧ 0 < u.b) : Seg P s u := by
  obtain ⟨x1, x2, x3⟩ := h1
  obtain ⟨y1, y2, y3⟩ := h2
  refine ⟨by omega, by omega, fun n d hn => ?_⟩
  obtain ⟨hd, h50, hg, hs, hu⟩ := hn
  by_cases ht : n * t.b < t.a * d
  · obtain ⟨f, c, p, p1, p2, p3, p4, p5⟩ := x3 n d ⟨hd, h50, hg, hs, ht⟩
    refine ⟨f, c, p, p1, p2, by omega, by omega, fun n' d' hn' hl => ?_⟩
    obtain ⟨hd', h50', hg', hs', hu'⟩ := hn'
    by_cases ht' : n' * t.b < t.a * d'
    · exact p5 n' d' ⟨hd', h50', hg', hs', ht'⟩ hl
    · obtain ⟨f', c', q, q1, q2, _⟩ := y3 n' d' ⟨hd', h50', hg', by omega, hu'⟩
      exact ⟨f', c', q, by omega, by omega⟩
  · obtain ⟨f, c, p, p1, p2, p3, p4, p5⟩ := y3 n d ⟨hd, h50, hg, by omega, hu⟩
    refine ⟨f, c, p, by omega, by omega, p3, p4, fun n' d' hn' hl => ?_⟩
    obtain ⟨hd', h50', hg', hs', hu'⟩ := hn'
    refine p5 n' d' ⟨hd', h50', hg', ?_, hu'⟩ hl
    have h3 : t.a * d ≤ n * t.b := by omega
    have h4 : t.a * d * d' ≤ n * t.b * d' := Nat.mul_le_mul_right _ h3
    have h5 : n * d' * t.b ≤ n' * d * t.b := Nat.mul_le_mul_right _ (by omega)
    have h6 : (t.a * d') * d ≤ (n' * t.b) * d := by
      rw [show t.a * d' * d = t.a * d * d' by grind, show n' * t.b * d = n' * d * t.b by grind]
      rw [show n * t.b * d' = n * d' * t.b by grind] at h4
      omega
    exact Nat.le_of_mul_le_mul_right h6 hd
theorem far_eq {s : FSt} (hi : FInv s) {n d : Nat} (hd : 0 < d) (h50 : d ≤ 50) (hg : Nat.gcd n d = 1) (h1 : s.a * d ≤ n * s.b) (h2 : n * s.d < s.c * d) : n = s.a ∧ d = s.b := by
  obtain ⟨_, ha, hf, hb, _, hd1, _⟩ := hi
  by_cases he : n * s.b = s.a * d
  · have hga : Nat.gcd s.a s.b = 1 := by
      have h3 : Nat.gcd s.a s.b ∣ s.b * s.c := Nat.dvd_trans (Nat.gcd_dvd_right _ _) (Nat.dvd_mul_right _ _)
      have h4 : Nat.gcd s.a s.b ∣ s.a * s.d := Nat.dvd_trans (Nat.gcd_dvd_left _ _) (Nat.dvd_mul_right _ _)
      rw [ha] at h3
      exact Nat.dvd_one.1 ((Nat.dvd_add_right h4).1 h3)
    have h3 : s.b ∣ d := (Nat.Coprime.dvd_of_dvd_mul_left (k := s.b) (m := s.a) (n := d) (by rw [Nat.Coprime, Nat.gcd_comm]; exact hga) ⟨n, by rw [Nat.mul_comm s.b n]; exact he.symm⟩)
    have h4 : d ∣ s.b := (Nat.Coprime.dvd_of_dvd_mul_left (k := d) (m := n) (n := s.b) (by rw [Nat.Coprime, Nat.gcd_comm]; exact hg) ⟨s.a, by rw [Nat.mul_comm d s.a]; exact he⟩)
    have h5 : d = s.b := Nat.dvd_antisymm h4 h3
    subst h5
    exact ⟨Nat.eq_of_mul_eq_mul_right hd he, rfl⟩
  · exfalso
    have h3 : s.a * d + 1 ≤ n * s.b := by omega
    have h4 : n * s.d + 1 ≤ s.c * d := by omega
    have h5 : s.d * (s.a * d + 1) ≤ s.d * (n * s.b) := Nat.mul_le_mul_left _ h3
    have h6 : s.b * (n * s.d + 1) ≤ s.b * (s.c * d) := Nat.mul_le_mul_left _ h4
    have h7 : d * (s.b * s.c) = d * (s.a * s.d + 1) := by rw [ha]
    have h8 : s.b + s.d ≤ d := by grind
    omega
theorem far_next {s : FSt} {f g : Nat} (hi : FInv s) : FInv ⟨s.c, s.d, (50 + s.b) / s.d * s.c - s.a, (50 + s.b) / s.d * s.d - s.b, f, g⟩ := by
  obtain ⟨ha1, ha, hf, hb, hb2, hd1, hd2⟩ := hi
  have h1 := Nat.div_add_mod (50 + s.b) s.d
  have h2 := Nat.mod_lt (50 + s.b) hd1
  have hk : 0 < (50 + s.b) / s.d := Nat.div_pos (by omega) hd1
  generalize (50 + s.b) / s.d = k at *
  generalize (50 + s.b) % s.d = r at *
  have h3 : s.b ≤ k * s.d := by rw [Nat.mul_comm]; omega
  have h4 : s.a ≤ k * s.c := by
    have h5 : s.a * s.d ≤ (k * s.c) * s.d := by
      have h7 : s.b * s.c ≤ k * s.d * s.c := Nat.mul_le_mul_right _ h3
      rw [show k * s.c * s.d = k * s.d * s.c by grind]; omega
    exact Nat.le_of_mul_le_mul_right h5 hd1
  have hc1 : 0 < s.c := by
    rcases Nat.eq_zero_or_pos s.c with h | h
    · rw [h, Nat.mul_zero] at ha; omega
    · exact h
  refine ⟨hc1, ?_, ?_, hd1, hd2, ?_, ?_⟩
  · show s.d * (k * s.c - s.a) = s.c * (k * s.d - s.b) + 1
    obtain ⟨x, hx⟩ := Nat.exists_eq_add_of_le h3
    obtain ⟨y, hy⟩ := Nat.exists_eq_add_of_le h4
    rw [hx, hy, Nat.add_sub_cancel_left, Nat.add_sub_cancel_left]
    grind
  · show 50 < s.d + (k * s.d - s.b); rw [Nat.mul_comm k]; omega
  · show 0 < k * s.d - s.b; rw [Nat.mul_comm k]; omega
  · show k * s.d - s.b ≤ 50; rw [Nat.mul_comm k]; omega
theorem far_ok {P : Nat → Nat → Nat → Nat → Prop} {ck : Nat → Nat → (Nat → Nat → Bool) → Bool} (hck : ∀ n d K, 0 < n → 0 < d → d ≤ 50 → ck n d K = true → ∃ f c, P n d f c ∧ K f c = true) {t : FSt} : ∀ {m : Nat} {s : FSt}, FInv s → farK ck t m s.a s.b s.c s.d s.lf s.lc = true → FInv t ∧ Seg P s t
  | 0, s, hi, h => by
    have h' : and (Nat.beq s.a t.a) (and (Nat.beq s.b t.b) (and (Nat.beq s.c t.c) (and (Nat.beq s.d t.d) (and (Nat.beq s.lf t.lf) (Nat.beq s.lc t.lc))))) = true := h
    simp only [Bool.and_eq_true, Nat.beq_eq_true_eq] at h'
    obtain ⟨e1, e2, e3, e4, e5, e6⟩ := h'
    have e : s = t := by cases s; cases t; simp_all
    subst e
    exact ⟨hi, Nat.le_refl _, Nat.le_refl _, fun n d hn => by obtain ⟨_, _, _, h1, h2⟩ := hn; omega⟩
  | m + 1, s, hi, h => by
    have h' : ck s.a s.b (fun f g => cond (and (Nat.ble s.lf f) (Nat.ble s.lc g)) (fz (Nat.div (Nat.add 50 s.b) s.d) fun k => fz (Nat.sub (Nat.mul k s.c) s.a) fun c' => fz (Nat.sub (Nat.mul k s.d) s.b) fun d' => farK ck t m s.c s.d c' d' f g) false) = true := h
    obtain ⟨f, c, hP, hk⟩ := hck _ _ _ hi.a1 hi.b1 hi.b2 h'
    rcases cond_t hk with ⟨hle, hk⟩ | ⟨_, hk⟩
    · simp only [Bool.and_eq_true, Nat.ble_eq] at hle
      simp only [fz_eq] at hk
      obtain ⟨hi', hs⟩ := far_ok hck (s := ⟨s.c, s.d, (50 + s.b) / s.d * s.c - s.a, (50 + s.b) / s.d * s.d - s.b, f, c⟩) (far_next hi) hk
      refine ⟨hi', Seg.trans (t := ⟨s.c, s.d, (50 + s.b) / s.d * s.c - s.a, (50 + s.b) / s.d * s.d - s.b, f, c⟩) ⟨hle.1, hle.2, fun n d hn => ?_⟩ hs ⟨hi.b1, hi.d1, hi'.b1⟩⟩
      obtain ⟨h1, h2, h3, h4, h5⟩ := hn
      obtain ⟨rfl, rfl⟩ := far_eq hi h1 h2 h3 h4 h5
      refine ⟨f, c, hP, hle.1, hle.2, Nat.le_refl _, Nat.le_refl _, fun n' d' hn' hl => ?_⟩
      obtain ⟨h1, h2, h3, h4, h5⟩ := hn'
      obtain ⟨rfl, rfl⟩ := far_eq hi h1 h2 h3 h4 h5
      omega
    · cases hk
end Go.Proofs.YteojhdahhaodoaaGreatDoor
namespace Go.Proofs.YteojhdahhaodoaaGreatDoor
open Go Go.Eng Go.RowKit
theorem ten_le60 {n : Nat} (h : n ≤ 60) : tenI n ≤ 10 ^ 60 := by
  unfold tenI
  have h1 : (10 : Nat) ^ n ≤ 10 ^ 60 := Nat.pow_le_pow_right (by decide) h
  have h2 : (((10 : Nat) ^ 60 : Nat) : Int) = (10 : Int) ^ 60 := by norm_cast
  omega
theorem cellW_ok (k pl : Nat) {a b : Nat} (h1 : a ≤ b) (h2 : b ≤ 1000000000000000000000000000000000000000000000000000000000000) :
    CellW k pl ((a : Int), (b : Int)) ((a / 10 ^ k : Nat) : Int) ((upn b (10 ^ k) : Nat) : Int) ∧ CellW k pl (-(b : Int), -(a : Int)) (-((upn b (10 ^ k) : Nat) : Int)) (-((a / 10 ^ k : Nat) : Int)) := by
  have hp : 0 < 10 ^ k := Nat.pow_pos (by decide)
  have f1 : a / 10 ^ k ≤ a := Nat.div_le_self _ _
  have f2 : upn b (10 ^ k) ≤ b := upn_le hp
  have hle : a / 10 ^ k ≤ upn b (10 ^ k) := by rw [upn_eq hp]; exact Nat.div_le_div_right (by omega)
  have l1 : (1000000000000000000000000000000000000000000000000000000000000 : Nat) < 10 ^ 70 := by decide
  have l2 : (1000000000000000000000000000000000000000000000000000000000000 : Nat) < 10 ^ 90 := by decide
  generalize he : a / 10 ^ k = f at *
  generalize hu : upn b (10 ^ k) = c at *
  refine ⟨⟨by simp only; omega, by simp only; omega, by simp only; omega, by rw [← he]; exact fl_n, by rw [← hu]; exact cl_n, by omega, by omega, by omega⟩, ⟨by simp only; omega, by simp only; omega, by simp only; omega, ?_, ?_, by omega, by omega, by omega⟩⟩
  · rw [flI_neg (ten_pos _)]; simp only [cl_n, hu]
  · rw [clI_neg (ten_pos _)]; simp only [fl_n, he]
theorem cellW_shift {k pl : Nat} {a b f c : Nat} (h : CellW k pl (-(b : Int), -(a : Int)) (-(c : Int)) (-(f : Int))) (hp : pl + k ≤ 60) : CellW k pl (tenI (pl + k) - (b : Int), tenI (pl + k) - (a : Int)) (tenI pl - (c : Int)) (tenI pl - (f : Int)) := by
  obtain ⟨b1, b2, le, hf, hc, f9, c9, fc⟩ := h
  have hS : tenI (pl + k) ≤ 10 ^ 60 := ten_le60 hp
  have hS0 := ten_pos (pl + k)
  have hT0 := ten_pos pl
  have hT : tenI pl ≤ 10 ^ 60 := ten_le60 (by omega)
  simp only at b1 b2 le hf hc
  refine ⟨by simp only; omega, by simp only; omega, by simp only; omega, ?_, ?_, by omega, by omega, by omega⟩
  · simp only
    unfold flI at *
    rw [show tenI (pl + k) - (b : Int) = -(b : Int) + tenI (pl + k) by omega, Int.add_mul, Int.add_mul_ediv_left _ _ (by omega), hf]
    omega
  · simp only
    unfold clI at *
    rw [show tenI (pl + k) - (a : Int) = -(a : Int) + tenI (pl + k) by omega, Int.add_mul, Int.add_mul_ediv_left _ _ (by omega), Int.add_mul_emod_self_left]
    split at hc
    · rename_i h0; rw [if_pos h0]; omega
    · rename_i h0; rw [if_neg h0]; omega
def nrB (pl : Nat) (N : Int) (d : Nat) (k : Nat) : Option (Int × Int) := nrP (10 ^ (pl + k)) (pl + k) N d
def PosR (pl n d f c : Nat) : Prop := 0 < n ∧ FindR pl (nrB pl (n : Int) d) (f : Int) (c : Int) ∧ FindR pl (nrB pl (-(n : Int)) d) (tenI pl - c) (tenI pl - f)
theorem nr_half {S H pl n d : Nat} {h : N2} (hn : 0 < n) (hH : S = 2 * H) (hh : hnP S pl n d = some h) : nrP S pl (n : Int) d = some (((H + h.1 : Nat) : Int), ((H + h.2 : Nat) : Int)) ∧ nrP S pl (-(n : Int)) d = some ((S : Int) - ((H + h.2 : Nat) : Int), (S : Int) - ((H + h.1 : Nat) : Int)) := by
  have hof : ofP S 1 2 = (H, H) := by
    unfold ofP
    rw [upn_eq (by decide), Nat.one_mul, hH, Nat.mul_div_cancel_left _ (by decide)]
    congr 1
    omega
  unfold nrP
  constructor
  · rw [show ((n : Int)).natAbs = n from rfl, hh, Option.map_some, if_neg (by omega), hof]; rfl
  · rw [show (-(n : Int)).natAbs = n by omega, hh, Option.map_some, if_pos (by omega), hof]
    unfold miP
    simp only []
    rw [show (H : Int) - (h.2 : Int) = (S : Int) - ((H + h.2 : Nat) : Int) by omega, show (H : Int) - (h.1 : Int) = (S : Int) - ((H + h.1 : Nat) : Int) by omega]
theorem round_half {k pl H n d : Nat} {h : N2} (hn : 0 < n) (hp : pl + k ≤ 60) (hH : 10 ^ (pl + k) = 2 * H) (hh : hnP (10 ^ (pl + k)) (pl + k) n d = some h) (h1 : H + h.1 ≤ H + h.2) (h2 : H + h.2 ≤ 1000000000000000000000000000000000000000000000000000000000000) :
    ∃ r s, nrB pl (n : Int) d k = some r ∧ CellW k pl r (((H + h.1) / 10 ^ k : Nat) : Int) ((upn (H + h.2) (10 ^ k) : Nat) : Int) ∧ nrB pl (-(n : Int)) d k = some s ∧ CellW k pl s (tenI pl - ((upn (H + h.2) (10 ^ k) : Nat) : Int)) (tenI pl - (((H + h.1) / 10 ^ k : Nat) : Int)) := by
  obtain ⟨e1, e2⟩ := nr_half hn hH hh
  obtain ⟨c1, c2⟩ := cellW_ok k pl h1 h2
  refine ⟨_, _, e1, c1, e2, ?_⟩
  have e : ((10 ^ (pl + k) : Nat) : Int) = tenI (pl + k) := rfl
  rw [e]
  exact cellW_shift c2 hp
def nmCk (S S1 H c1 c2 : Nat) (n d : Nat) (K : Nat → Nat → Bool) : Bool := hnK S S1 c1 c2 (fun r1 r2 => fz (Nat.add H r1) fun a => fz (Nat.add H r2) fun b => cellK 1000000000000000 a b K) n d
theorem nmCk_ok {S S1 H pl n d : Nat} {c : N2} {K : Nat → Nat → Bool} (hp : pl ≤ 12) (hS : S = 10 ^ (pl + 15)) (h1 : S1 = S - 1) (hH : S = 2 * H) (hc : rootP S (byP (piN (pl + 15), piN (pl + 15) + 1) 2 1) = some c) (hcb : bdB c = true) (hn : 0 < n) (hd : 0 < d) (hk : nmCk S S1 H c.1 c.2 n d K = true) : ∃ f g, PosR pl n d f g ∧ K f g = true := by
  have hS0 : 0 < S := by rw [hS]; exact Nat.pow_pos (by decide)
  obtain ⟨h, hh, hq⟩ := hnK_ok hS0 h1 hc hcb hd hk
  clear hk
  have hk := hq
  clear hq
  rw [fz_eq, fz_eq] at hk
  unfold cellK at hk
  rcases cond_t hk with ⟨h2, hk⟩ | ⟨_, hk⟩
  · simp only [Bool.and_eq_true, Nat.ble_eq] at h2
    obtain ⟨h2, h3⟩ := h2
    simp only [fz_eq] at hk
    rcases cond_t hk with ⟨h4, hk⟩ | ⟨_, hk⟩
    · rw [Nat.ble_eq] at h4
      subst hS
      obtain ⟨r, s, e1, w1, e2, w2⟩ := round_half (k := 15) hn (by omega) hH hh h2 h3
      have e3 : Nat.div (Nat.add H h.1) 1000000000000000 = (H + h.1) / 10 ^ 15 := rfl
      have e4 : Nat.div (Nat.add (Nat.add H h.2) (Nat.pred 1000000000000000)) 1000000000000000 = upn (H + h.2) (10 ^ 15) := by rw [upn_eq (by decide)]; rfl
      rw [e3, e4] at hk h4
      refine ⟨(H + h.1) / 10 ^ 15, upn (H + h.2) (10 ^ 15), ⟨hn, ⟨by omega, Or.inl ⟨r, e1, w1⟩⟩, ⟨by omega, Or.inl ⟨s, e2, w2⟩⟩⟩, hk⟩
    · cases hk
  · cases hk
theorem p40 : (10 : Nat) ^ 40 = 10000000000000000000000000000000000000000 := by decide +kernel
def nmCk2 (S S1 H c1 c2 S' S1' H' c1' c2' : Nat) (n d : Nat) (K : Nat → Nat → Bool) : Bool := hnK S S1 c1 c2 (fun r1 r2 => fz (Nat.add H r1) fun a => fz (Nat.add H r2) fun b =>
  cond (and (Nat.ble a b) (Nat.ble b 1000000000000000000000000000000000000000000000000000000000000)) (fz (Nat.div a 1000000000000000) fun f => fz (Nat.div (Nat.add b (Nat.pred 1000000000000000)) 1000000000000000) fun c => cond (Nat.ble c (Nat.succ f)) (K f c)
    (hnK S' S1' c1' c2' (fun r1 r2 => fz (Nat.add H' r1) fun a => fz (Nat.add H' r2) fun b => cellK 10000000000000000000000000000000000000000 a b K) n d)) false) n d
theorem nmCk2_ok {S S1 H S' S1' H' pl n d : Nat} {c c' : N2} {K : Nat → Nat → Bool} (hp : pl ≤ 12) (hS : S = 10 ^ (pl + 15)) (h1 : S1 = S - 1) (hH : S = 2 * H) (hc : rootP S (byP (piN (pl + 15), piN (pl + 15) + 1) 2 1) = some c) (hcb : bdB c = true)
    (hS' : S' = 10 ^ (pl + 40)) (h1' : S1' = S' - 1) (hH' : S' = 2 * H') (hc' : rootP S' (byP (piN (pl + 40), piN (pl + 40) + 1) 2 1) = some c') (hcb' : bdB c' = true) (hn : 0 < n) (hd : 0 < d) (hk : nmCk2 S S1 H c.1 c.2 S' S1' H' c'.1 c'.2 n d K = true) : ∃ f g, PosR pl n d f g ∧ K f g = true := by
  have hS0 : 0 < S := by rw [hS]; exact Nat.pow_pos (by decide)
  have hS0' : 0 < S' := by rw [hS']; exact Nat.pow_pos (by decide)
  obtain ⟨h, hh, hq⟩ := hnK_ok hS0 h1 hc hcb hd hk
  clear hk
  have hk := hq
  clear hq
  rw [fz_eq, fz_eq] at hk
  rcases cond_t hk with ⟨h2, hk⟩ | ⟨_, hk⟩
  · simp only [Bool.and_eq_true, Nat.ble_eq] at h2
    obtain ⟨h2, h3⟩ := h2
    simp only [fz_eq] at hk
    subst hS
    obtain ⟨r, s, e1, w1, e2, w2⟩ := round_half (k := 15) hn (by omega) hH hh h2 h3
    have e3 : Nat.div (Nat.add H h.1) 1000000000000000 = (H + h.1) / 10 ^ 15 := rfl
    have e4 : Nat.div (Nat.add (Nat.add H h.2) (Nat.pred 1000000000000000)) 1000000000000000 = upn (H + h.2) (10 ^ 15) := by rw [upn_eq (by decide)]; rfl
    rw [e3, e4] at hk
    rcases cond_t hk with ⟨h4, hk⟩ | ⟨h4, hk⟩
    · rw [Nat.ble_eq] at h4
      refine ⟨(H + h.1) / 10 ^ 15, upn (H + h.2) (10 ^ 15), ⟨hn, ⟨by omega, Or.inl ⟨r, e1, w1⟩⟩, ⟨by omega, Or.inl ⟨s, e2, w2⟩⟩⟩, hk⟩
    · have h5 : (H + h.1) / 10 ^ 15 + 1 < upn (H + h.2) (10 ^ 15) := by
        rcases Nat.lt_or_ge ((H + h.1) / 10 ^ 15 + 1) (upn (H + h.2) (10 ^ 15)) with x | x
        · exact x
        · rw [show Nat.ble (upn (H + h.2) (10 ^ 15)) (Nat.succ ((H + h.1) / 10 ^ 15)) = true from Nat.ble_eq_true_of_le x] at h4; cases h4
      obtain ⟨h', hh', hk⟩ := hnK_ok hS0' h1' hc' hcb' hd hk
      unfold cellK at hk
      rcases cond_t hk with ⟨h6, hk⟩ | ⟨_, hk⟩
      · simp only [Bool.and_eq_true, Nat.ble_eq] at h6
        obtain ⟨h6, h7⟩ := h6
        simp only [fz_eq] at hk
        rcases cond_t hk with ⟨h8, hk⟩ | ⟨_, hk⟩
        · rw [Nat.ble_eq] at h8
          have hH2 : 10 ^ (pl + 40) = 2 * H' := by rw [← hS']; exact hH'
          have hh2 : hnP (10 ^ (pl + 40)) (pl + 40) n d = some h' := by rw [← hS']; exact hh'
          obtain ⟨r', s', e1', w1', e2', w2'⟩ := round_half (k := 40) hn (by omega) hH2 hh2 h6 h7
          have e5 : Nat.div (Nat.add H' h'.1) 10000000000000000000000000000000000000000 = (H' + h'.1) / 10 ^ 40 := by rw [p40]; rfl
          have e6 : Nat.div (Nat.add (Nat.add H' h'.2) (Nat.pred 10000000000000000000000000000000000000000)) 10000000000000000000000000000000000000000 = upn (H' + h'.2) (10 ^ 40) := by rw [p40, upn_eq (by decide)]; rfl
          rw [e5, e6] at hk h8
          refine ⟨(H' + h'.1) / 10 ^ 40, upn (H' + h'.2) (10 ^ 40), ⟨hn, ⟨by omega, Or.inr ⟨r, r', _, _, e1, w1, by omega, e1', w1'⟩⟩, ⟨by omega, Or.inr ⟨s, s', _, _, e2, w2, by omega, e2', w2'⟩⟩⟩, hk⟩
        · cases hk
      · cases hk
  · cases hk
def TabR (pl : Nat) : Prop := ∃ t : FSt, Seg (PosR pl) ⟨1, 50, 1, 49, 10 ^ pl / 2, 10 ^ pl / 2⟩ t ∧ t.a = 8 * t.b ∧ 0 < t.b ∧ t.lf + 1 ≤ 10 ^ pl ∧ t.lc ≤ 10 ^ pl
end Go.Proofs.YteojhdahhaodoaaGreatDoor
