/- Part of the proof of a statement about decisions. -/
import Derived.Test.YtonigegpknhdnaaGreatDoorRatQToSp15
import Derived.Test.YtonigegpknhdnaaGreatDoorEngPToEngH
import Derived.Test.YtonigegpknhdnaaGreatDoorBaseToEngJ
set_option linter.all false
namespace Go.Proofs.YtonigegpknhdnaaGreatDoor
open Go Go.Eng Go.RowKit
attribute [local irreducible] wpListIn Code.wpIn Oper.wpIn Exit.then Exit.inBlock Exit.noGoto
set_option maxHeartbeats 40000000
structure CellW (k pl : Nat) (r : Int × Int) (f c : Int) : Prop where
  b1 : r.1.natAbs < 10 ^ 90
  b2 : r.2.natAbs < 10 ^ 90
  le : r.1 ≤ r.2
  hf : flI r.1 (tenI (pl + k)) (tenI pl) = f
  hc : clI r.2 (tenI (pl + k)) (tenI pl) = c
  f9 : f.natAbs < 10 ^ 70
  c9 : c.natAbs < 10 ^ 70
  fc : f ≤ c
theorem CellW.r {pl : Nat} {r : Int × Int} {f c : Int} (h : CellW 15 pl r f c) (h1 : c ≤ f + 1) : CellR pl r f c := ⟨h.b1, h.b2, h.le, h.hf, h.hc, h.f9, h.c9, h.fc, h1⟩
theorem width_gt {f c T : Int} (h : f + 1 < c) (hT : 0 < T) : ¬ cmpI ((c * T - f * T) * T) (1 * (T * T)) ≤ 0 := by
  rw [cmpI_nonpos, ← Int.sub_mul, Int.mul_assoc]
  have h1 : 0 < T * T := Int.mul_pos hT hT
  have h2 : 2 * (T * T) ≤ (c - f) * (T * T) := Int.mul_le_mul_of_nonneg_right om (Int.le_of_lt h1)
  omega
set_option maxRecDepth 100000 in
theorem cell_two {l m l1 m1 l2 m2 l3 m3 l4 m4 : List UInt8} {g : Nat} {lb : List Value} {a b la lb0 ha hb : Int} {pl : Nat} {w : World} (e : (l, m) = qR a b) (h : Q9 a b) (ha12 : a.natAbs < 10 ^ 12) (hb12 : b < 10 ^ 12) (e1 : (l1, m1) = qR la lb0) (q1 : Q9 la lb0) (e2 : (l2, m2) = qR ha hb) (q2 : Q9 ha hb) {r1 r2 : Int × Int} {f1 c1 f2 c2 : Int} (hrt : rightB pl a b la lb0 ha hb = true) (hp : pl ≤ 12) (hne : ¬ ((l, m) : R) = (l3, m3)) (hg : Enters Tryz.prog g) (hbd1 : ∀ W, Ext w W → Calls Tryz.prog g ([.agg #[.int .i64 ((pl + 15 : Nat) : Int), S (nS (10 ^ (pl + 15)))], .agg #[S l, S m]].toArray ++ lb.toArray) W (Ret W fun v _ => v = .agg #[S (showI r1.1), S (showI r1.2)])) (hbd2 : ∀ W, Ext w W → Calls Tryz.prog g ([.agg #[.int .i64 ((pl + 40 : Nat) : Int), S (nS (10 ^ (pl + 40)))], .agg #[S l, S m]].toArray ++ lb.toArray) W (Ret W fun v _ => v = .agg #[S (showI r2.1), S (showI r2.2)])) (hC1 : CellW 15 pl r1 f1 c1) (hno : f1 + 1 < c1) (hC2 : CellW 40 pl r2 f2 c2) (hone : c2 ≤ f2 + 1) (ht : Tb w) :
    Calls Tryz.prog 77 #[.agg #[S (l1), S (m1), S (l2), S (m2), S (l3), S (m3), S (l4), S (m4), .func (.func g) #[] lb.toArray], .agg #[S (l), S (m)], .int .i64 pl] w (Ret w fun v w' => v = .tuple #[.agg #[S ((qR f2 (tenI pl)).1), S ((qR f2 (tenI pl)).2), S ((qR c2 (tenI pl)).1), S ((qR c2 (tenI pl)).2)], .int .i64 0]) := by
 have za1 := ten_q9 (k := pl + 15) hC1.b1 om;have za2 := ten_q9 (k := pl + 15) hC1.b2 om;have ya1 := ten_q9 (k := pl) (a := f1) (Nat.lt_of_lt_of_le hC1.f9 dc) om;have ya2 := ten_q9 (k := pl) (a := c1) (Nat.lt_of_lt_of_le hC1.c9 dc) om;have wqa : Q9 (c1 * tenI pl - f1 * tenI pl) (tenI pl * tenI pl) := wq9 hC1.f9 hC1.c9 hp;have zb1 := ten_q9 (k := pl + 40) hC2.b1 om;have zb2 := ten_q9 (k := pl + 40) hC2.b2 om;have yb1 := ten_q9 (k := pl) (a := f2) (Nat.lt_of_lt_of_le hC2.f9 dc) om;have yb2 := ten_q9 (k := pl) (a := c2) (Nat.lt_of_lt_of_le hC2.c9 dc) om;have wqb : Q9 (c2 * tenI pl - f2 * tenI pl) (tenI pl * tenI pl) := wq9 hC2.f9 hC2.c9 hp;have ones := ten_q9 (k := pl) (a := 1) dc om;refine f_in Tryz.func77 rfl ?_;refine go ?_;refine bx (fun jt ko ac => ?_);have g7 := ko.2;refine bx (fun j9 ke co => ?_);have ⟨ac,g7⟩:=be1 ke.2 ac g7;refine al inf1032 (fun lu ka fe => ?_);have ⟨ac,co,g7⟩:=be2 ka.2 ac co g7;refine go ?_;refine l_op (k_loadA (cs := [S (l1), S (m1), S (l2), S (m2), S (l3), S (m3), S (l4), S (m4), .func (.func g) #[] lb.toArray]) (b := w.heap.size) (o := 0) U1052 rfl sz1052 rfl (Blk.cells ac (i := 0) rfl) ?_);refine go ?_;refine cl en1042 (cB (isRight_ok e h ha12 hb12 e1 q1 e2 q2 rfl (ht.ext g7)) hrt) ?_;rintro lv ju j8 rfl;have ⟨ac,co,fe,g7⟩:=be3 j8.2 ac co fe g7;refine go ?_;refine l_op (k_eqlR (a := (l, m)) (b := (l3, m3)) (q := decide ((l, m) = (l3, m3))) rfl rfl rfl ?_);refine go ?_;refine BS2 (fun kp jv lw fg => ?_);have ⟨ac,co,fe,g7⟩:=be3 jv ac co fe g7
 have lx := bz jv;refine go ?_;refine c_lp [(7, 7), (11, 22), (44, 111)] (fun kk e W => ∃ i : Nat, (2 - i = kk) ∧ (e 44 = .int .i64 i) ∧ (i ≤ 1) ∧ (kp.heap.size ≤ W.heap.size) ∧ (Ext w W) ∧ (Blk W (w.heap.size) 110 #[S (l1), S (m1), S (l2), S (m2), S (l3), S (m3), S (l4), S (m4), .func (.func g) #[] lb.toArray]) ∧ (Blk W (jt.heap.size) 25 #[S (l), S (m)]) ∧ (Blk W (j9.heap.size) 44 #[S ([]), S ([]), S ([]), S ([])]) ∧ (World.ownsRow W (ju.heap.size) 3 1 (.slice (some ⟨ju.heap.size, 0, none⟩) (2) (2)) 2 [.int .i64 (15), .int .i64 (40)])) (2 - (0)) ⟨0, rfl, rfl, dc, (Nat.le_refl _), g7, ac, co, fe, fg⟩ ?_;rintro lz l0 l9 ⟨i, rfl, jw, hi, mc, fh, ac, co, fe, fg⟩;have me := bz fh;by_cases hz0 : i = 0;obtain rfl : i = 0 := by omega
 refine go ?_;obtain ⟨bk, oo, hA, hcl⟩ := (Rw.of_own fg).cells 0 _ rfl;refine l_op (k_indexAddr (i := 0) (oo := oo + 0) U24 sz3 rfl hA jw dc rfl ?_);refine l_op (k_load (v := .int .i64 15) U3 rfl rfl hcl ?_);refine go ?_;refine l_op (k_add (a := (pl : Int)) (b := 15) (c := ((pl + 15 : Nat) : Int)) rfl rfl (by unfold In64; omega) om ?_);refine clb en1035 (hc := spAt_ok om (ht.ext fh)) (hk := ?_);rintro mf jl jx rfl;have ⟨ac,co,fe⟩:=bf3 jx.2 ac co fe;have fg := own_ext jx.2 fg;have fh := xt fh jx.2;refine al inf1054 (fun mg jy kq => ?_);have ⟨ac,co,fe⟩:=bf3 jy.2 ac co fe;have fg := own_ext jy.2 fg;have fh := xt fh jy.2;refine SA kq (fun mh jm fk => ?_);have ⟨ac,co,fe⟩:=pf3 jm ac co fe;have fg := own_put jm (by simp [Value.ownBlock]; omega) fg;have fh := plw jm fh;have mi := psz jm;refine go ?_;refine l_op (clV (f := g) (lb := lb) (vs := [.agg #[.int .i64 ((((pl + 15) : Nat) : Int)), S (nS (10 ^ (pl + 15)))], .agg #[S (l), S (m)]]) hg rfl rfl (cArr (hbd1 _ fh)) ?_);rintro mj jz jn rfl;have ⟨ac,co,fe⟩:=bf3 jn.2 ac co fe;have fg := own_ext jn.2 fg;have ⟨fk,fh⟩:=be1 jn.2 fk fh;refine al inf1056 (fun ml jo kr => ?_);have ⟨ac,co,fe⟩:=bf3 jo.2 ac co fe;have fg := own_ext jo.2 fg;have ⟨fk,fh⟩:=be1 jo.2 fk fh;refine SA kr (fun mm jf fo => ?_);have ⟨ac,co,fe⟩:=pf3 jf ac co fe;have fg := own_put jf (by simp [Value.ownBlock]; omega) fg;have ⟨fk,fh,mo⟩:=pl1 jf fk fh;refine go ?_;refine cl en1046 (rMakeZ_ok rfl rfl za1.fz.1 za1.fz.2 (Int.ne_of_gt za1.2.1) (ht.ext fh)) ?_;rintro mu kf jg rfl
 have ⟨ac,co,fe⟩:=bf3 jg.2 ac co fe;have fg := own_ext jg.2 fg;have ⟨fk,fo,fh⟩:=be2 jg.2 fk fo fh;refine go ?_;refine al inf36 (fun mv jh ks => ?_);have ⟨ac,co,fe⟩:=bf3 jh.2 ac co fe;have fg := own_ext jh.2 fg;have ⟨fk,fo,fh⟩:=be2 jh.2 fk fo fh;refine SA ks (fun mw iz fq => ?_);have ⟨ac,co,fe⟩:=pf3 iz ac co fe;have fg := own_put iz (by simp [Value.ownBlock]; omega) fg;have ⟨fk,fo,fh,mx⟩:=pl2 iz fk fo fh;refine go ?_;refine cl en1046 (rMakeZ_ok rfl rfl za2.fz.1 za2.fz.2 (Int.ne_of_gt za2.2.1) (ht.ext fh)) ?_;rintro my kg ja rfl;have ⟨ac,co,fe⟩:=bf3 ja.2 ac co fe;have fg := own_ext ja.2 fg;have ⟨fk,fo,fq,fh⟩:=be3 ja.2 fk fo fq fh;refine go ?_;refine al inf36 (fun mz jb kt => ?_);have ⟨ac,co,fe⟩:=bf3 jb.2 ac co fe;have fg := own_ext jb.2 fg;have ⟨fk,fo,fq,fh⟩:=be3 jb.2 fk fo fq fh;refine SA kt (fun m5 ir f6 => ?_);have ⟨ac,co,fe⟩:=pf3 ir ac co fe;have fg := own_put ir (by simp [Value.ownBlock]; omega) fg;have ⟨fk,fo,fq,fh,m6⟩:=pl3 ir fk fo fq fh;refine go ?_;refine l_op (k_build (vs := [(0, .agg #[S ((qR r1.1 (tenI (pl + 15))).1), S ((qR r1.1 (tenI (pl + 15))).2)]), (1, .agg #[S ((qR r1.2 (tenI (pl + 15))).1), S ((qR r1.2 (tenI (pl + 15))).2)])]) (cells := #[S ((qR r1.1 (tenI (pl + 15))).1), S ((qR r1.1 (tenI (pl + 15))).2), S ((qR r1.2 (tenI (pl + 15))).1), S ((qR r1.2 (tenI (pl + 15))).2)]) (pl := [(0, 2), (2, 2)]) U1032 inf1032 (by kernel_rfl) rfl (by kernel_rfl) ?_);refine go ?_
 refine clb en1048 (hc := cEq (Y := .tuple #[.agg #[S ((qR f1 (tenI pl)).1), S ((qR f1 (tenI pl)).2), S ((qR c1 (tenI pl)).1), S ((qR c1 (tenI pl)).2)], .int .i64 0]) (round_ok (x := (qR r1.1 (tenI (pl + 15)), qR r1.2 (tenI (pl + 15)))) rfl rfl za1 za2 (Int.mul_le_mul_of_nonneg_right hC1.le (Int.le_of_lt za1.2.1)) om (ht.ext fh)) (by rw [hC1.hf, hC1.hc])) (hk := ?_);rintro m7 kh iu rfl;have ⟨ac,co,fe⟩:=bf3 iu.2 ac co fe;have fg := own_ext iu.2 fg;have ⟨fk,fo,fq,f6,fh⟩:=be4 iu.2 fk fo fq f6 fh;refine go ?_;refine al inf1032 (fun m8 iv ku => ?_);have ⟨ac,co,fe⟩:=bf3 iv.2 ac co fe;have fg := own_ext iv.2 fg;have ⟨fk,fo,fq,f6,fh⟩:=be4 iv.2 fk fo fq f6 fh;refine SA ku (fun m9 g8 gc => ?_);have ⟨ac,co,fe⟩:=pf3 g8 ac co fe;have fg := own_put g8 (by simp [Value.ownBlock]; omega) fg;have ⟨fk,fo,fq,f6,fh,nc⟩:=pl4 g8 fk fo fq f6 fh;refine go ?_;refine l_op (k_loadA (cs := [S ((qR f1 (tenI pl)).1), S ((qR f1 (tenI pl)).2), S ((qR c1 (tenI pl)).1), S ((qR c1 (tenI pl)).2)]) (b := kh.heap.size) (o := 0) U1032 rfl sz1032 rfl (Blk.cells gc (i := 0) rfl) ?_);refine cl en1049 (width_ok (x := (qR f1 (tenI pl), qR c1 (tenI pl))) rfl rfl ya1 ya2 (Int.mul_le_mul_of_nonneg_right hC1.fc (Int.le_of_lt ya1.2.1)) (ht.ext fh)) ?_;rintro nd ki g9 rfl;have ⟨ac,co,fe⟩:=bf3 g9.2 ac co fe;have fg := own_ext g9.2 fg;have ⟨fk,fo,fq,f6,gc,fh⟩:=be5 g9.2 fk fo fq f6 gc fh;refine go ?_;refine al inf36 (fun nf ia kv => ?_);have ⟨ac,co,fe⟩:=bf3 ia.2 ac co fe;have fg := own_ext ia.2 fg
 have ⟨fk,fo,fq,f6,gc,fh⟩:=be5 ia.2 fk fo fq f6 gc fh;refine SA kv (fun nh gi gh => ?_);have ⟨ac,co,fe⟩:=pf3 gi ac co fe;have fg := own_put gi (by simp [Value.ownBlock]; omega) fg;have ⟨fk,fo,fq,f6,gc,fh,ni⟩:=pl5 gi fk fo fq f6 gc fh;refine go ?_;refine c_an 5 ?_;refine sf ?_;refine sf_ae (V := .agg #[.int .i64 ((((pl) : Nat) : Int)), S (nS (10 ^ (pl)))]) (fun nz n4 gj n6 => ?_) ?_;refine clb en1035 (hc := spAt_ok om (ht.ext (xt fh gj))) (hk := ?_);rintro n7 n8 gk rfl;have kw := gk.2;refine go ?_;exact fs ⟨kw, rfl⟩;refine sf_ap (fun n9 oa ig oc => by refine l_op (k_field (cs := [.int .i64 ((((pl) : Nat) : Int)), S (nS (10 ^ (pl)))]) (v := S (nS (10 ^ (pl)))) U1054 rfl rfl rfl U9 rfl rfl rfl ?_);refine go ?_;exact finp) ?_;refine sf_ae (V := .agg #[S ([49]), S (nS (10 ^ (pl)))]) (fun oe og ii oh => ?_) ?_;refine cl en1026 (spRatio_ok) ?_;rintro oi ol gl rfl;have ky := gl.2;refine go ?_;exact fs ⟨ky, rfl⟩;refine sf ?_;intro ot ou gm ow;have ⟨ac,co,fe⟩:=bf3 gm.2 ac co fe;have fg := own_ext gm.2 fg;have fh := xt fh gm.2;refine cl en49 (qCmpL rfl step_q wqa ones (ht.ext fh)) ?_;rintro ox oy gp rfl;have ⟨ac,co,fe⟩:=bf3 gp.2 ac co fe;have fg := own_ext gp.2 fg;have fh := xt fh gp.2;refine go ?_;refine c_false (congrArg Value.bool (decide_eq_false (width_gt hno (ten_pos pl)))) ?_;refine go ?_;refine l_op (k_add (a := ((0 : Nat) : Int)) (b := 1) (c := (((0 + 1 : Nat)) : Int)) jw rfl (by unfold In64; omega) dc ?_);refine go ?_
 exact lend (hk := by decide) ⟨0 + 1, rfl, rfl, dc, om, fh, ac, co, fe, fg⟩;obtain rfl : i = 1 := by omega
 refine go ?_;obtain ⟨bk, oo, hA, hcl⟩ := (Rw.of_own fg).cells 1 _ rfl;refine l_op (k_indexAddr (i := 1) (oo := oo + 1) U24 sz3 rfl hA jw dc rfl ?_);refine l_op (k_load (v := .int .i64 40) U3 rfl rfl hcl ?_);refine go ?_;refine l_op (k_add (a := (pl : Int)) (b := 40) (c := ((pl + 40 : Nat) : Int)) rfl rfl (by unfold In64; omega) om ?_);refine clb en1035 (hc := spAt_ok om (ht.ext fh)) (hk := ?_);rintro oz jp j5 rfl;have ⟨ac,co,fe,fh⟩:=be3 j5.2 ac co fe fh;refine al inf1054 (fun o0 j6 kz => ?_);have ⟨ac,co,fe,fh⟩:=be3 j6.2 ac co fe fh;refine SA kz (fun o5 jq fj => ?_);have ⟨ac,co,fe,fh,o6⟩:=pl3 jq ac co fe fh;refine go ?_;refine l_op (clV (f := g) (lb := lb) (vs := [.agg #[.int .i64 ((((pl + 40) : Nat) : Int)), S (nS (10 ^ (pl + 40)))], .agg #[S (l), S (m)]]) hg rfl rfl (cArr (hbd2 _ fh)) ?_);rintro o7 j7 jr rfl;have ⟨ac,co,fe,fj,fh⟩:=be4 jr.2 ac co fe fj fh;refine al inf1056 (fun o8 js ld => ?_);have ⟨ac,co,fe,fj,fh⟩:=be4 js.2 ac co fe fj fh;refine SA ld (fun o9 ji fm => ?_);have ⟨ac,co,fe,fj,fh,pc⟩:=pl4 ji ac co fe fj fh;refine go ?_;refine cl en1046 (rMakeZ_ok rfl rfl zb1.fz.1 zb1.fz.2 (Int.ne_of_gt zb1.2.1) (ht.ext fh)) ?_;rintro pf kj jj rfl;have ⟨ac,co,fe,fj,fm,fh⟩:=be5 jj.2 ac co fe fj fm fh;refine go ?_;refine al inf36 (fun pg jk lg => ?_);have ⟨ac,co,fe,fj,fm,fh⟩:=be5 jk.2 ac co fe fj fm fh;refine SA lg (fun pj jc fp => ?_);have ⟨ac,co,fe,fj,fm,fh,pm⟩:=pl5 jc ac co fe fj fm fh;refine go ?_
 refine cl en1046 (rMakeZ_ok rfl rfl zb2.fz.1 zb2.fz.2 (Int.ne_of_gt zb2.2.1) (ht.ext fh)) ?_;rintro pn km jd rfl;have ⟨ac,co,fe,fj,fm⟩:=bf5 jd.2 ac co fe fj fm;have ⟨fp,fh⟩:=be1 jd.2 fp fh;refine go ?_;refine al inf36 (fun po je lh => ?_);have ⟨ac,co,fe,fj,fm⟩:=bf5 je.2 ac co fe fj fm;have ⟨fp,fh⟩:=be1 je.2 fp fh;refine SA lh (fun pp iw fw => ?_);have ⟨ac,co,fe,fj,fm⟩:=pf5 iw ac co fe fj fm;have ⟨fp,fh,pq⟩:=pl1 iw fp fh;refine go ?_;refine l_op (k_build (vs := [(0, .agg #[S ((qR r2.1 (tenI (pl + 40))).1), S ((qR r2.1 (tenI (pl + 40))).2)]), (1, .agg #[S ((qR r2.2 (tenI (pl + 40))).1), S ((qR r2.2 (tenI (pl + 40))).2)])]) (cells := #[S ((qR r2.1 (tenI (pl + 40))).1), S ((qR r2.1 (tenI (pl + 40))).2), S ((qR r2.2 (tenI (pl + 40))).1), S ((qR r2.2 (tenI (pl + 40))).2)]) (pl := [(0, 2), (2, 2)]) U1032 inf1032 (by kernel_rfl) rfl (by kernel_rfl) ?_);refine go ?_;refine clb en1048 (hc := cEq (Y := .tuple #[.agg #[S ((qR f2 (tenI pl)).1), S ((qR f2 (tenI pl)).2), S ((qR c2 (tenI pl)).1), S ((qR c2 (tenI pl)).2)], .int .i64 0]) (round_ok (x := (qR r2.1 (tenI (pl + 40)), qR r2.2 (tenI (pl + 40)))) rfl rfl zb1 zb2 (Int.mul_le_mul_of_nonneg_right hC2.le (Int.le_of_lt zb1.2.1)) om (ht.ext fh)) (by rw [hC2.hf, hC2.hc])) (hk := ?_);rintro pr kb ix rfl;have ⟨ac,co,fe,fj,fm⟩:=bf5 ix.2 ac co fe fj fm;have ⟨fp,fw,fh⟩:=be2 ix.2 fp fw fh;refine go ?_;refine al inf1032 (fun pt iy li => ?_);have ⟨ac,co,fe,fj,fm⟩:=bf5 iy.2 ac co fe fj fm;have ⟨fp,fw,fh⟩:=be2 iy.2 fp fw fh
 refine SA li (fun pu ij f7 => ?_);have ⟨ac,co,fe,fj,fm⟩:=pf5 ij ac co fe fj fm;have ⟨fp,fw,fh,pw⟩:=pl2 ij fp fw fh;refine go ?_;refine l_op (k_loadA (cs := [S ((qR f2 (tenI pl)).1), S ((qR f2 (tenI pl)).2), S ((qR c2 (tenI pl)).1), S ((qR c2 (tenI pl)).2)]) (b := kb.heap.size) (o := 0) U1032 rfl sz1032 rfl (Blk.cells f7 (i := 0) rfl) ?_);refine cl en1049 (width_ok (x := (qR f2 (tenI pl), qR c2 (tenI pl))) rfl rfl yb1 yb2 (Int.mul_le_mul_of_nonneg_right hC2.fc (Int.le_of_lt yb1.2.1)) (ht.ext fh)) ?_;rintro px kn ik rfl;have ⟨ac,co,fe,fj,fm⟩:=bf5 ik.2 ac co fe fj fm;have ⟨fp,fw,f7,fh⟩:=be3 ik.2 fp fw f7 fh;refine go ?_;refine al inf36 (fun py il lj => ?_);have ⟨ac,co,fe,fj,fm⟩:=bf5 il.2 ac co fe fj fm;have ⟨fp,fw,f7,fh⟩:=be3 il.2 fp fw f7 fh;refine SA lj (fun p0 gq gd => ?_);have ⟨ac,co,fe,fj,fm⟩:=pf5 gq ac co fe fj fm;have ⟨fp,fw,f7,fh,p7⟩:=pl3 gq fp fw f7 fh;refine go ?_;refine c_an 5 ?_;refine sf ?_;refine sf_ae (V := .agg #[.int .i64 ((((pl) : Nat) : Int)), S (nS (10 ^ (pl)))]) (fun qg qh gu qj => ?_) ?_;refine clb en1035 (hc := spAt_ok om (ht.ext (xt fh gu))) (hk := ?_);rintro qk ql gv rfl;have lk := gv.2;refine go ?_;exact fs ⟨lk, rfl⟩;refine sf_ap (fun qm qn ip qo => by refine l_op (k_field (cs := [.int .i64 ((((pl) : Nat) : Int)), S (nS (10 ^ (pl)))]) (v := S (nS (10 ^ (pl)))) U1054 rfl rfl rfl U9 rfl rfl rfl ?_);refine go ?_;exact finp) ?_;refine sf_ae (V := .agg #[S ([49]), S (nS (10 ^ (pl)))]) (fun qq qr iq qy => ?_) ?_;refine cl en1026 (spRatio_ok) ?_
 rintro q5 q6 gw rfl;have ll := gw.2;refine go ?_;exact fs ⟨ll, rfl⟩;refine sf ?_;intro q7 q8 gy q9;have ⟨ac,co,fe,fj,fm⟩:=bf5 gy.2 ac co fe fj fm;have ⟨fp,fw,f7,gd,fh⟩:=be4 gy.2 fp fw f7 gd fh;refine cl en49 (qCmpL rfl step_q wqb ones (ht.ext fh)) ?_;rintro ra rb gz rfl;have ⟨ac,co,fe,fj,fm⟩:=bf5 gz.2 ac co fe fj fm;have ⟨fp,fw,f7,gd,fh⟩:=be4 gz.2 fp fw f7 gd fh;refine go ?_;refine c_true (congrArg Value.bool (decide_eq_true (width_le hone (ten_pos pl)))) ?_;refine go ?_;refine l_op (k_loadA (cs := [S ((qR f2 (tenI pl)).1), S ((qR f2 (tenI pl)).2), S ((qR c2 (tenI pl)).1), S ((qR c2 (tenI pl)).2)]) (b := kb.heap.size) (o := 0) U1032 rfl sz1032 rfl (Blk.cells f7 (i := 0) rfl) ?_);refine SA fe (fun rd g6 ln => ?_);have ⟨ac,co,fj,fm,fp⟩:=pf5 g6 ac co fj fm fp;have ⟨fw,f7,gd,fh,re⟩:=pl3 g6 fw f7 gd fh;refine go ?_;refine f_out (v := .tuple #[.agg #[S ((qR f2 (tenI pl)).1), S ((qR f2 (tenI pl)).2), S ((qR c2 (tenI pl)).1), S ((qR c2 (tenI pl)).2)], .int .i64 (0)]) (res2 (r1 := .cell 6 44) (r2 := .tmp 7) rfl ?_ ?_) fh rfl;refine res_cellA (t := 6) (cs := [S ((qR f2 (tenI pl)).1), S ((qR f2 (tenI pl)).2), S ((qR c2 (tenI pl)).1), S ((qR c2 (tenI pl)).2)]) (b := j9.heap.size) (o := 0) U1032 rfl sz1032 ?_ ?_;exact rfl;exact Blk.cells ln (i := 0) rfl;exact res_tmp (t := 7) (by exact rfl) _
set_option maxRecDepth 100000
theorem sl1 : ([49] : List UInt8) = showI 1 := by decide +kernel
theorem Normal_lo {l m : List UInt8} {pl : Nat} {w : World} {a b : Int} (e : (l, m) = qR a b) (h : Q9 a b) (ha12 : a.natAbs < 10 ^ 12) (hb12 : b < 10 ^ 12) (hp : pl ≤ 12) (hrt : rightB pl a b (-10000000000000) 1 10000000000000 1 = true) (h8 : ¬ 0 < cmpI (a * 1) (-8 * b)) (hng : neg l = true) (ht : Tb w) :
    Calls Tryz.prog 43 #[.agg #[S (l), S (m)], .int .i64 pl] w (Ret w fun v w' => v = .tuple #[.agg #[S ([48]), S ([49]), S ((qR 1 (tenI pl)).1), S ((qR 1 (tenI pl)).2)], .int .i64 0]) := by
 have ones := ten_q9 (k := pl) (a := 1) dc om;refine f_in Tryz.func43 rfl ?_;refine go ?_;refine bx (fun il iq ac => ?_);have fg := iq.2;refine al inf1032 (fun ja im co => ?_);have ac := be im.2 ac;have fg := xt fg im.2;refine go ?_;refine clb en1035 (hc := spAt_ok (pl := 13) dc (ht.ext fg)) (hk := ?_);rintro jb jc gp rfl;have ac := be gp.2 ac;have co := be gp.2 co;have fg := xt fg gp.2;refine l_op (k_field (cs := [.int .i64 (((13 : Nat) : Int)), S (nS (10 ^ 13))]) (v := S (nS (10 ^ 13))) U1054 rfl rfl rfl U9 rfl rfl rfl ?_);refine l_op (k_addS (a := [45]) (b := nS (10 ^ 13)) rfl rfl (by decide +kernel) ?_);refine cl en1026 (spRatio_ok) ?_;rintro jd je gq rfl;have ac := be gq.2 ac;have co := be gq.2 co;have fg := xt fg gq.2;refine clb en1035 (hc := spAt_ok (pl := 13) dc (ht.ext fg)) (hk := ?_);rintro jf jg gu rfl;have ac := be gu.2 ac;have co := be gu.2 co;have fg := xt fg gu.2;refine l_op (k_field (cs := [.int .i64 (((13 : Nat) : Int)), S (nS (10 ^ 13))]) (v := S (nS (10 ^ 13))) U1054 rfl rfl rfl U9 rfl rfl rfl ?_);refine cl en1026 (spRatio_ok) ?_;rintro jh ji gv rfl;have ac := be gv.2 ac;have co := be gv.2 co;have fg := xt fg gv.2;refine cl en1026 (spRatio_ok) ?_;rintro jj jk gw rfl;have ac := be gw.2 ac;have co := be gw.2 co;have fg := xt fg gw.2;refine cl en1026 (spRatio_ok) ?_;rintro jl io gy rfl
 have ac := be gy.2 ac;have co := be gy.2 co;have fg := xt fg gy.2;refine l_op (k_build (vs := [(0, .agg #[S (([45]) ++ (nS (10 ^ 13))), S ([49])]), (1, .agg #[S (nS (10 ^ 13)), S ([49])]), (2, .agg #[S ([48]), S ([49])]), (3, .agg #[S ([49]), S ([50])]), (4, .func (.func 75) #[] #[])]) (cells := #[S (([45]) ++ (nS (10 ^ 13))), S ([49]), S (nS (10 ^ 13)), S ([49]), S ([48]), S ([49]), S ([49]), S ([50]), .func (.func 75) #[] #[]]) (pl := [(0, 2), (2, 2), (4, 2), (6, 2), (8, 1)]) U1052 inf1052 (by kernel_rfl) rfl (by kernel_rfl) ?_);refine al inf1052 (fun jm gz ir => ?_);have ac := be gz.2 ac;have co := be gz.2 co;have fg := xt fg gz.2;refine SA ir (fun jn fq fe => ?_);have ac := pb fq ac;have co := pb fq co;have fg := plw fq fg;have jo := psz fq;refine go ?_;refine c_an 13 ?_;refine sf_ap (fun jp jq g6 jr => by have fe := be g6 fe;refine l_op (k_loadA (cs := [S (([45]) ++ (nS (10 ^ 13))), S ([49]), S (nS (10 ^ 13)), S ([49]), S ([48]), S ([49]), S ([49]), S ([50]), .func (.func 75) #[] #[]]) (b := io.heap.size) (o := 0) U1052 rfl sz1052 rfl (Blk.cells fe (i := 0) rfl) ?_);refine go ?_;exact finp) ?_
 refine sf ?_;refine sf_ae (V := .bool (true)) (fun jy jz fw j5 => ?_) ?_;refine cl en1042 (cB (isRight_ok e h ha12 hb12 qn13 q9n13 qp13 q9p13 rfl (ht.ext (xt fg fw))) hrt) ?_;rintro j6 j7 f6 rfl;have iu := f6.2;refine go ?_;exact fs ⟨iu, rfl⟩;refine sf ?_;refine sf_ae (V := .agg #[S ([45, 56]), S ([49])]) (fun kj km ie kn => ?_) ?_;refine go ?_;refine cl en1026 (spRatio_ok) ?_;rintro ko kp f7 rfl;have iv := f7.2;refine go ?_;exact fs ⟨iv, rfl⟩;refine sf_ae (V := .int .i64 (cmpI (a * 1) (-8 * b))) (fun kq kr gc ks => ?_) ?_;refine go ?_;refine cl en49 (qCmpL e qn8 h q9n8 (ht.ext (xt fg gc))) ?_;rintro kt ku gd rfl;have iw := gd.2;refine go ?_;exact fs ⟨iw, rfl⟩;refine sf ?_;intro lu lv gh lw;have ac := be gh.2 ac;have co := be gh.2 co;have fe := be gh.2 fe;have fg := xt fg gh.2;with_reducible refine l_drop rfl ?_
 refine go ?_;refine clb en1035 (hc := spAt_ok (pl := (pl)) om (ht.ext fg)) (hk := ?_);rintro lx lz gi rfl;have ac := be gi.2 ac;have co := be gi.2 co;have fe := be gi.2 fe;have fg := xt fg gi.2;refine l_op (k_field (cs := [.int .i64 ((((pl) : Nat) : Int)), S (nS (10 ^ (pl)))]) (v := S (nS (10 ^ (pl)))) U1054 rfl rfl rfl U9 rfl rfl rfl ?_);refine cl en1046 (rMakeZ_ok (b := tenI pl) sl1 rfl ones.fz.1 ones.fz.2 (Int.ne_of_gt ones.2.1) (ht.ext fg)) ?_;rintro l0 ip gj rfl;have ac := be gj.2 ac;have co := be gj.2 co;have fe := be gj.2 fe;have fg := xt fg gj.2;refine go ?_;refine al inf36 (fun l9 gk ix => ?_);have ac := be gk.2 ac;have co := be gk.2 co;have fe := be gk.2 fe;have fg := xt fg gk.2;refine SA ix (fun mc fj fh => ?_);have ac := pb fj ac;have co := pb fj co;have fe := pb fj fe;have fg := plw fj fg;have me := psz fj;refine go ?_;refine cl en142 (cEq (Y := .bool true) (hasPrefix_ok _ _) (congrArg Value.bool hng)) ?_;rintro mf mg fk rfl;have ac := be fk.2 ac;have co := be fk.2 co;have fe := be fk.2 fe;have fh := be fk.2 fh;have fg := xt fg fk.2;refine go ?_;refine c_an 2 ?_;refine sf_ae (V := .agg #[S ([48]), S ([49])]) (fun mh mi gl mj => ?_) ?_;refine cl en1026 (spRatio_ok) ?_;rintro ml mm fm rfl;have iy := fm.2;refine go ?_;exact fs ⟨iy, rfl⟩;refine sf ?_;intro mw mx fo my;have ac := be fo.2 ac
 have co := be fo.2 co;have fe := be fo.2 fe;have fh := be fo.2 fh;have fg := xt fg fo.2;refine l_op (k_build (vs := [(0, .agg #[S ([48]), S ([49])]), (1, .agg #[S ((qR 1 (tenI pl)).1), S ((qR 1 (tenI pl)).2)])]) (cells := #[S ([48]), S ([49]), S ((qR 1 (tenI pl)).1), S ((qR 1 (tenI pl)).2)]) (pl := [(0, 2), (2, 2)]) U1032 inf1032 (by kernel_rfl) rfl (by kernel_rfl) ?_);refine SA co (fun mz fp iz => ?_);have ac := pb fp ac;have fe := pb fp fe;have fh := pb fp fh;have fg := plw fp fg;have m5 := psz fp;refine go ?_;refine f_out (v := .tuple #[.agg #[S ([48]), S ([49]), S ((qR 1 (tenI pl)).1), S ((qR 1 (tenI pl)).2)], .int .i64 (0)]) (res2 (r1 := .cell 4 44) (r2 := .tmp 5) rfl ?_ ?_) fg rfl;refine res_cellA (t := 4) (cs := [S ([48]), S ([49]), S ((qR 1 (tenI pl)).1), S ((qR 1 (tenI pl)).2)]) (b := il.heap.size) (o := 0) U1032 rfl sz1032 ?_ ?_;exact rfl;exact Blk.cells iz (i := 0) rfl;exact res_tmp (t := 5) (by exact rfl) _
theorem Normal_hi {l m : List UInt8} {pl : Nat} {w : World} {a b : Int} (e : (l, m) = qR a b) (h : Q9 a b) (ha12 : a.natAbs < 10 ^ 12) (hb12 : b < 10 ^ 12) (hp : pl ≤ 12) (hrt : rightB pl a b (-10000000000000) 1 10000000000000 1 = true) (h8 : 0 < cmpI (a * 1) (-8 * b)) (h9 : ¬ cmpI (a * 1) (8 * b) < 0) (hng : neg l = false) (ht : Tb w) :
    Calls Tryz.prog 43 #[.agg #[S (l), S (m)], .int .i64 pl] w (Ret w fun v w' => v = .tuple #[.agg #[S ((qR (1 * tenI pl - 1 * 1) (1 * tenI pl)).1), S ((qR (1 * tenI pl - 1 * 1) (1 * tenI pl)).2), S ([49]), S ([49])], .int .i64 0]) := by
 have ones := ten_q9 (k := pl) (a := 1) dc om;refine f_in Tryz.func43 rfl ?_;refine go ?_;refine bx (fun im ll co => ?_);have ac := ll.2;refine al inf1032 (fun p0 kj fe => ?_);have co := be kj.2 co;have ac := xt ac kj.2;refine go ?_;refine clb en1035 (hc := spAt_ok (pl := 13) dc (ht.ext ac)) (hk := ?_);rintro p7 p9 jl rfl;have co := be jl.2 co;have fe := be jl.2 fe;have ac := xt ac jl.2;refine l_op (k_field (cs := [.int .i64 (((13 : Nat) : Int)), S (nS (10 ^ 13))]) (v := S (nS (10 ^ 13))) U1054 rfl rfl rfl U9 rfl rfl rfl ?_);refine l_op (k_addS (a := [45]) (b := nS (10 ^ 13)) rfl rfl (by decide +kernel) ?_);refine cl en1026 (spRatio_ok) ?_;rintro qa qb jm rfl;have co := be jm.2 co;have fe := be jm.2 fe;have ac := xt ac jm.2;refine clb en1035 (hc := spAt_ok (pl := 13) dc (ht.ext ac)) (hk := ?_);rintro qc qd jn rfl;have co := be jn.2 co;have fe := be jn.2 fe;have ac := xt ac jn.2;refine l_op (k_field (cs := [.int .i64 (((13 : Nat) : Int)), S (nS (10 ^ 13))]) (v := S (nS (10 ^ 13))) U1054 rfl rfl rfl U9 rfl rfl rfl ?_);refine cl en1026 (spRatio_ok) ?_;rintro qe qg jo rfl;have co := be jo.2 co;have fe := be jo.2 fe;have ac := xt ac jo.2;refine cl en1026 (spRatio_ok) ?_;rintro qh qj jp rfl;have co := be jp.2 co;have fe := be jp.2 fe;have ac := xt ac jp.2;refine cl en1026 (spRatio_ok) ?_;rintro qk jq jr rfl
 have co := be jr.2 co;have fe := be jr.2 fe;have ac := xt ac jr.2;refine l_op (k_build (vs := [(0, .agg #[S (([45]) ++ (nS (10 ^ 13))), S ([49])]), (1, .agg #[S (nS (10 ^ 13)), S ([49])]), (2, .agg #[S ([48]), S ([49])]), (3, .agg #[S ([49]), S ([50])]), (4, .func (.func 75) #[] #[])]) (cells := #[S (([45]) ++ (nS (10 ^ 13))), S ([49]), S (nS (10 ^ 13)), S ([49]), S ([48]), S ([49]), S ([49]), S ([50]), .func (.func 75) #[] #[]]) (pl := [(0, 2), (2, 2), (4, 2), (6, 2), (8, 1)]) U1052 inf1052 (by kernel_rfl) rfl (by kernel_rfl) ?_);refine al inf1052 (fun ql js ln => ?_);have co := be js.2 co;have fe := be js.2 fe;have ac := xt ac js.2;refine SA ln (fun qm io fg => ?_);have co := pb io co;have fe := pb io fe;have ac := plw io ac;have qn := psz io;refine go ?_;refine c_an 13 ?_;refine sf_ap (fun qo qq jt qr => by have fg := be jt fg;refine l_op (k_loadA (cs := [S (([45]) ++ (nS (10 ^ 13))), S ([49]), S (nS (10 ^ 13)), S ([49]), S ([48]), S ([49]), S ([49]), S ([50]), .func (.func 75) #[] #[]]) (b := jq.heap.size) (o := 0) U1052 rfl sz1052 rfl (Blk.cells fg (i := 0) rfl) ?_);refine go ?_;exact finp) ?_
 refine sf ?_;refine sf_ae (V := .bool (true)) (fun ra rb ip rd => ?_) ?_;refine cl en1042 (cB (isRight_ok e h ha12 hb12 qn13 q9n13 qp13 q9p13 rfl (ht.ext (xt ac ip))) hrt) ?_;rintro re rh iq rfl;have lu := iq.2;refine go ?_;exact fs ⟨lu, rfl⟩;refine sf ?_;refine sf_ae (V := .agg #[S ([45, 56]), S ([49])]) (fun ry rz jz r6 => ?_) ?_;refine go ?_;refine cl en1026 (spRatio_ok) ?_;rintro r7 r8 ir rfl;have lv := ir.2;refine go ?_;exact fs ⟨lv, rfl⟩;refine sf_ae (V := .int .i64 (cmpI (a * 1) (-8 * b))) (fun r9 sc iu sd => ?_) ?_;refine go ?_;refine cl en49 (qCmpL e qn8 h q9n8 (ht.ext (xt ac iu))) ?_;rintro se sh iv rfl;have lw := iv.2;refine go ?_;exact fs ⟨lw, rfl⟩;refine sf ?_;refine sf_ae (V := .agg #[S ([56]), S ([49])]) (fun sy ta j8 tc => ?_) ?_;refine go ?_;refine cl en1026 (spRatio_ok) ?_;rintro td te iw rfl;have lx := iw.2;refine go ?_;exact fs ⟨lx, rfl⟩;refine sf ?_;intro tg th ix tj;have co := be ix.2 co;have fe := be ix.2 fe;have fg := be ix.2 fg;have ac := xt ac ix.2;with_reducible refine l_drop rfl ?_
 refine go ?_;refine cl en49 (qCmpL e qp8 h q9p8 (ht.ext ac)) ?_;rintro tl tm iy rfl;have co := be iy.2 co;have fe := be iy.2 fe;have fg := be iy.2 fg;have ac := xt ac iy.2;refine go ?_;refine clb en1035 (hc := spAt_ok (pl := (pl)) om (ht.ext ac)) (hk := ?_);rintro tn tp iz rfl;have co := be iz.2 co;have fe := be iz.2 fe;have fg := be iz.2 fg;have ac := xt ac iz.2;refine l_op (k_field (cs := [.int .i64 ((((pl) : Nat) : Int)), S (nS (10 ^ (pl)))]) (v := S (nS (10 ^ (pl)))) U1054 rfl rfl rfl U9 rfl rfl rfl ?_);refine cl en1046 (rMakeZ_ok (b := tenI pl) sl1 rfl ones.fz.1 ones.fz.2 (Int.ne_of_gt ones.2.1) (ht.ext ac)) ?_;rintro tq j9 ja rfl;have co := be ja.2 co;have fe := be ja.2 fe;have fg := be ja.2 fg;have ac := xt ac ja.2;refine go ?_;refine al inf36 (fun tu jb lz => ?_);have co := be jb.2 co;have fe := be jb.2 fe;have fg := be jb.2 fg;have ac := xt ac jb.2;refine SA lz (fun tv g7 ka => ?_);have co := pb g7 co;have fe := pb g7 fe;have fg := pb g7 fg;have ac := plw g7 ac;have tw := psz g7;refine go ?_;refine cl en142 (cEq (Y := .bool false) (hasPrefix_ok _ _) (congrArg Value.bool hng)) ?_;rintro tz kb g8 rfl;have co := be g8.2 co;have fe := be g8.2 fe;have fg := be g8.2 fg;have ka := be g8.2 ka;have ac := xt ac g8.2;refine go ?_;have gl := Ext.drew kb;refine c_st2 hmix 8 (fun e0 ls e W => ∃ fo : Nat, (∀ t, inB [9, 57, 58, 59, 60, 61, 62] t = false → e t = e0 t) ∧ (Ext w W) ∧ (kb.heap.size ≤ W.heap.size) ∧ (ls 0 = true → e 58 = .agg #[S ([49]), S ([49])]) ∧ (ls 1 = true → e 59 = .agg #[S ((qR 1 (tenI pl)).1), S ((qR 1 (tenI pl)).2)]) ∧ (ls 2 = true → e 60 = .tuple #[.agg #[S ((qR (1 * tenI pl - 1 * 1) (1 * tenI pl)).1), S ((qR (1 * tenI pl - 1 * 1) (1 * tenI pl)).2)], .int .i64 (0)]) ∧ (ls 3 = true → e 57 = .tuple #[.agg #[S ((qR (1 * tenI pl - 1 * 1) (1 * tenI pl)).1), S ((qR (1 * tenI pl - 1 * 1) (1 * tenI pl)).2)], .int .i64 (0)]) ∧ (ls 4 = true → e 61 = .agg #[S ((qR (1 * tenI pl - 1 * 1) (1 * tenI pl)).1), S ((qR (1 * tenI pl - 1 * 1) (1 * tenI pl)).2)]) ∧ (ls 5 = true → e 62 = .int .i64 (0)) ∧ (ls 6 = true → e 9 = .pointer (some ⟨fo, 0, none⟩)) ∧ (ls 6 = true → kb.heap.size ≤ fo) ∧ (Blk W (w.heap.size) 25 #[S (l), S (m)]) ∧ (Blk W (im.heap.size) 44 #[S ([]), S ([]), S ([]), S ([])]) ∧ (Blk W (jq.heap.size) 110 #[S (([45]) ++ (nS (10 ^ 13))), S ([49]), S (nS (10 ^ 13)), S ([49]), S ([48]), S ([49]), S ([49]), S ([50]), .func (.func 75) #[] #[]]) ∧ (Blk W (j9.heap.size) 25 #[S ((qR 1 (tenI pl)).1), S ((qR 1 (tenI pl)).2)]) ∧ (ls 6 = true → ls 7 = false → Blk W (fo) 25 #[S ([]), S ([])]) ∧ (ls 7 = true → Blk W (fo) 25 #[S ((qR (1 * tenI pl - 1 * 1) (1 * tenI pl)).1), S ((qR (1 * tenI pl - 1 * 1) (1 * tenI pl)).2)])) ⟨0, (fun _ _ => rfl), (xt ac gl), (bz gl), (ff rfl), (ff rfl), (ff rfl), (ff rfl), (ff rfl), (ff rfl), (ff rfl), (ff rfl), (be gl co), (be gl fe), (be gl fg), (be gl ka), (fun h _ => ff rfl h), (fun h  => ff rfl h)⟩ (by kernel_rfl) (by kernel_rfl) ?_ ?_
 refine ⟨fun t7 t8 g9 l0 ia km ua => ?_, ?_⟩;obtain ⟨fo, l9, ac, zst, f6, f7, gc, fp, gd, gh, fq, fw, fj, fm, fk, fh, gi, gk⟩ := l0;obtain ⟨t7, rfl⟩ := ovE l9;have mc : g9 2 = false := (unl ia (i := 0) (j := 2) rfl km);have me : g9 7 = false := (unl ia (i := 0) (j := 7) rfl km);have kn : g9 3 = false := (unl ia (i := 2) (j := 3) rfl mc);have ub : g9 4 = false := (unl ia (i := 3) (j := 4) rfl kn);have ud : g9 5 = false := (unl ia (i := 3) (j := 5) rfl kn);have ue := bz ac;have jc := bt fj;have jd := bt fm;have je := bt fk;have jf := bt fh;refine cl en1026 (spRatio_ok) ?_;rintro uf ug gm rfl;have fj := be gm.2 fj;have fm := be gm.2 fm;have fk := be gm.2 fk;have fh := be gm.2 fh;have ac := xt ac gm.2;refine go ?_;exact ⟨rfl, _, (act_put _ _ _ _ _).symm, fo, (same_upd rfl l9), ac, om, (fun _ => rfl), f7, gc, fp, gd, gh, fq, fw, (fj), (fm), (fk), (fh), (fun mf mg => (be gm.2 (gi mf mg))), (fun mh => ff me mh)⟩;refine ⟨fun uh ui ic mi ie ko uj => ?_, ?_⟩;obtain ⟨fo, kp, ac, zst, f6, f7, gc, fp, gd, gh, fq, fw, fj, fm, fk, fh, gi, gk⟩ := mi;obtain ⟨uh, rfl⟩ := ovE kp;have mj : ic 2 = false := (unl ie (i := 1) (j := 2) rfl ko);have ml : ic 7 = false := (unl ie (i := 1) (j := 7) rfl ko);have kq : ic 3 = false := (unl ie (i := 2) (j := 3) rfl mj);have uk : ic 4 = false := (unl ie (i := 3) (j := 4) rfl kq);have ul : ic 5 = false := (unl ie (i := 3) (j := 5) rfl kq);have um := bz ac;refine go ?_;exact ⟨rfl, _, (act_put _ _ _ _ _).symm, fo, (same_upd rfl kp), ac, om, f6, (fun _ => rfl), gc, fp, gd, gh, fq, fw, (fj), (fm), (fk), (fh), (fun mm mo => gi mm mo), (fun mu => ff ml mu)⟩
 refine ⟨fun kr un gp mv jg ks kt => ?_, ?_⟩;obtain ⟨fo, mw, ac, zst, f6, f7, gc, fp, gd, gh, fq, fw, fj, fm, fk, fh, gi, gk⟩ := mv;obtain ⟨kr, rfl⟩ := ovE mw;have mx : gp 0 = true := (kt 0 rfl);have my : gp 1 = true := (kt 1 rfl);have ku : gp 3 = false := (unl jg (i := 2) (j := 3) rfl ks);have mz : gp 7 = false := (unl jg (i := 2) (j := 7) rfl ks);have uo : gp 4 = false := (unl jg (i := 3) (j := 4) rfl ku);have uq : gp 5 = false := (unl jg (i := 3) (j := 5) rfl ku);have m5 : kr 58 = .agg #[S ([49]), S ([49])] := f6 mx;have m6 : kr 59 = .agg #[S ((qR 1 (tenI pl)).1), S ((qR 1 (tenI pl)).2)] := f7 my;have ut := bz ac;have jc := bt fj;have jd := bt fm;have je := bt fk;have jf := bt fh;refine cl en220 (qSubL q11 rfl q9l1 ones (ht.ext ac)) ?_ (cons_eq m5 (cons_eq m6 rfl));rintro uu uv gq rfl;have fj := be gq.2 fj;have fm := be gq.2 fm;have fk := be gq.2 fk;have fh := be gq.2 fh;have ac := xt ac gq.2;refine go ?_;exact ⟨rfl, _, (act_put _ _ _ _ _).symm, fo, (same_upd rfl mw), ac, om, f6, f7, (fun _ => rfl), fp, gd, gh, fq, fw, (fj), (fm), (fk), (fh), (fun m7 m8 => (be gq.2 (gi m7 m8))), (fun m9 => ff mz m9)⟩;refine ⟨fun nc uw gu nd ig ke nf => ?_, ?_⟩;obtain ⟨fo, nh, ac, zst, f6, f7, gc, fp, gd, gh, fq, fw, fj, fm, fk, fh, gi, gk⟩ := nd;obtain ⟨nc, rfl⟩ := ovE nh;have kf : gu 2 = true := (nf 2 rfl);have ux : gu 0 = true := (ig 2 0 rfl kf);have uy : gu 1 = true := (ig 2 1 rfl kf);have uz : gu 4 = false := (unl ig (i := 3) (j := 4) rfl ke)
 have u3 : gu 5 = false := (unl ig (i := 3) (j := 5) rfl ke);have ni : gu 7 = false := (unl ig (i := 3) (j := 7) rfl ke);have nj : nc 60 = .tuple #[.agg #[S ((qR (1 * tenI pl - 1 * 1) (1 * tenI pl)).1), S ((qR (1 * tenI pl - 1 * 1) (1 * tenI pl)).2)], .int .i64 (0)] := gc kf;have u4 := bz ac;refine go ?_;exact ⟨rfl, _, (act_put _ _ _ _ _).symm, fo, (same_upd rfl nh), ac, om, f6, f7, gc, (fun _ => rfl), gd, gh, fq, fw, (fj), (fm), (fk), (fh), (fun nk nl => gi nk nl), (fun nn => ff ni nn)⟩;refine ⟨fun nu u5 ii nw jh nz n4 => ?_, ?_⟩;obtain ⟨fo, n6, ac, zst, f6, f7, gc, fp, gd, gh, fq, fw, fj, fm, fk, fh, gi, gk⟩ := nw;obtain ⟨nu, rfl⟩ := ovE n6;have kv : ii 3 = true := (n4 3 rfl);have kw : ii 2 = true := (jh 3 2 rfl kv);have u6 : ii 0 = true := (jh 2 0 rfl kw);have u7 : ii 1 = true := (jh 2 1 rfl kw);have n7 : ii 7 = false := (unl jh (i := 4) (j := 7) rfl nz);have n8 : nu 57 = .tuple #[.agg #[S ((qR (1 * tenI pl - 1 * 1) (1 * tenI pl)).1), S ((qR (1 * tenI pl - 1 * 1) (1 * tenI pl)).2)], .int .i64 (0)] := fp kv;have u9 := bz ac;refine go ?_;exact ⟨rfl, _, (act_put _ _ _ _ _).symm, fo, (same_upd rfl n6), ac, om, f6, f7, gc, fp, (fun _ => rfl), gh, fq, fw, (fj), (fm), (fk), (fh), (fun n9 oa => gi n9 oa), (fun oc => ff n7 oc)⟩;refine ⟨fun oe vd ji og kg ve oh => ?_, ?_⟩;obtain ⟨fo, oi, ac, zst, f6, f7, gc, fp, gd, gh, fq, fw, fj, fm, fk, fh, gi, gk⟩ := og;obtain ⟨oe, rfl⟩ := ovE oi;have ky : ji 3 = true := (oh 3 rfl);have kz : ji 2 = true := (kg 3 2 rfl ky)
 have vg : ji 0 = true := (kg 2 0 rfl kz);have vh : ji 1 = true := (kg 2 1 rfl kz);have ol : oe 57 = .tuple #[.agg #[S ((qR (1 * tenI pl - 1 * 1) (1 * tenI pl)).1), S ((qR (1 * tenI pl - 1 * 1) (1 * tenI pl)).2)], .int .i64 (0)] := fp ky;have vi := bz ac;refine go ?_;exact ⟨rfl, _, (act_put _ _ _ _ _).symm, fo, (same_upd rfl oi), ac, om, f6, f7, gc, fp, gd, (fun _ => rfl), fq, fw, (fj), (fm), (fk), (fh), (fun ot ou => gi ot ou), (fun ow => gk ow)⟩;refine ⟨fun vj ox oy oz o0 o5 vk => ?_, ?_⟩;obtain ⟨fo, o6, ac, zst, f6, f7, gc, fp, gd, gh, fq, fw, fj, fm, fk, fh, gi, gk⟩ := oz;obtain ⟨vj, rfl⟩ := ovE o6;have o7 : oy 7 = false := (unl o0 (i := 6) (j := 7) rfl o5);have vl := bz ac;have jc := bt fj;have jd := bt fm;have je := bt fk;have jf := bt fh;refine al inf36 (fun vm ij o8 => ?_);have fj := be ij.2 fj;have fm := be ij.2 fm;have fk := be ij.2 fk;have fh := be ij.2 fh;have ac := xt ac ij.2;refine go ?_;exact ⟨rfl, _, (act_put _ _ _ _ _).symm, ox.heap.size, (same_upd rfl o6), ac, om, f6, f7, gc, fp, gd, gh, (fun _ => rfl), (fun _ => om), (fj), (fm), (fk), (fh), (fun vn vo => o8), (fun o9 => ff o7 o9)⟩;refine ⟨fun ld vq gv pc jj pf lg => ?_, ?_⟩;obtain ⟨fo, pg, ac, zst, f6, f7, gc, fp, gd, gh, fq, fw, fj, fm, fk, fh, gi, gk⟩ := pc;obtain ⟨ld, rfl⟩ := ovE pg;have kh : gv 6 = true := (lg 6 rfl);have lh : gv 4 = true := (lg 4 rfl);have pj : gv 3 = true := (jj 4 3 rfl lh);have li : gv 2 = true := (jj 3 2 rfl pj)
 have vr : gv 0 = true := (jj 2 0 rfl li);have vt : gv 1 = true := (jj 2 1 rfl li);have pm : ld 61 = .agg #[S ((qR (1 * tenI pl - 1 * 1) (1 * tenI pl)).1), S ((qR (1 * tenI pl - 1 * 1) (1 * tenI pl)).2)] := gd lh;have pn : ld 9 = .pointer (some ⟨fo, 0, none⟩) := fq kh;have vu := bz ac;have po := fw kh;have jc := bt fj;have jd := bt fm;have je := bt fk;have jf := bt fh;have lj := gi kh pf;have vw := bt lj;refine SA lj (fun vx gw pp => ?_);have fj := pb gw fj;have fm := pb gw fm;have fk := pb gw fk;have fh := pb gw fh;have ac := plw gw ac;have vy := psz gw;refine go ?_;exact ⟨rfl, undef, rfl, fo, pg, ac, om, f6, f7, gc, fp, gd, gh, fq, fw, (fj), (fm), (fk), (fh), (fun vz pq => tf rfl pq), (fun v8 => pp)⟩;exact trivial;intro ki wc wd jk pr;obtain ⟨fo, pt, ac, zst, f6, f7, gc, fp, gd, gh, fq, fw, fj, fm, fk, fh, gi, gk⟩ := pr;obtain ⟨ki, rfl⟩ := ovE pt;have we := bz ac;have po := fw (jk 6 rfl);have jc := bt fj;have jd := bt fm;have je := bt fk;have jf := bt fh;have gj := gk (jk 7 rfl);have wg := bt gj;have pu : ki 62 = .int .i64 (0) := (gh (jk 5 rfl));refine go ?_;have pw : ki 9 = .pointer (some ⟨fo, 0, none⟩) := (fq (jk 6 rfl));refine c_an 2 ?_;refine sf ?_;refine sf_ae (V := .agg #[S ([49]), S ([49])]) (fun wk wl il wm => ?_) ?_;refine cl en1026 (spRatio_ok) ?_;rintro wn wo gy rfl;have px := gy.2;refine go ?_;exact fs ⟨px, rfl⟩;refine sf ?_
 intro wp ws gz wt;have fj := be gz.2 fj;have fm := be gz.2 fm;have fk := be gz.2 fk;have fh := be gz.2 fh;have gj := be gz.2 gj;have ac := xt ac gz.2;refine l_op (k_build (vs := [(0, .agg #[S ((qR (1 * tenI pl - 1 * 1) (1 * tenI pl)).1), S ((qR (1 * tenI pl - 1 * 1) (1 * tenI pl)).2)]), (1, .agg #[S ([49]), S ([49])])]) (cells := #[S ((qR (1 * tenI pl - 1 * 1) (1 * tenI pl)).1), S ((qR (1 * tenI pl - 1 * 1) (1 * tenI pl)).2), S ([49]), S ([49])]) (pl := [(0, 2), (2, 2)]) U1032 inf1032 (by kernel_rfl) rfl (by kernel_rfl) ?_);refine SA fm (fun wu g6 py => ?_);have fj := pb g6 fj;have fk := pb g6 fk;have fh := pb g6 fh;have gj := pb g6 gj;have ac := plw g6 ac;have wv := psz g6;refine go ?_;refine f_out (v := .tuple #[.agg #[S ((qR (1 * tenI pl - 1 * 1) (1 * tenI pl)).1), S ((qR (1 * tenI pl - 1 * 1) (1 * tenI pl)).2), S ([49]), S ([49])], .int .i64 (0)]) (res2 (r1 := .cell 4 44) (r2 := .tmp 5) rfl ?_ ?_) ac rfl;refine res_cellA (t := 4) (cs := [S ((qR (1 * tenI pl - 1 * 1) (1 * tenI pl)).1), S ((qR (1 * tenI pl - 1 * 1) (1 * tenI pl)).2), S ([49]), S ([49])]) (b := im.heap.size) (o := 0) U1032 rfl sz1032 ?_ ?_;exact rfl;exact Blk.cells py (i := 0) rfl;exact res_tmp (t := 5) (by exact rfl) _
end Go.Proofs.YtonigegpknhdnaaGreatDoor
namespace Go.Proofs.YtonigegpknhdnaaGreatDoor
open Go Go.Eng Go.RowKit
def CellV (pl : Nat) (f c : Int) : Value := .tuple #[.agg #[S (qR f (tenI pl)).1, S (qR f (tenI pl)).2, S (qR c (tenI pl)).1, S (qR c (tenI pl)).2], .int .i64 0]
def FindR (pl : Nat) (bd : Nat → Option (Int × Int)) (f c : Int) : Prop :=
  c ≤ f + 1 ∧ ((∃ r, bd 15 = some r ∧ CellW 15 pl r f c) ∨ (∃ r r2 f1 c1, bd 15 = some r ∧ CellW 15 pl r f1 c1 ∧ f1 + 1 < c1 ∧ bd 40 = some r2 ∧ CellW 40 pl r2 f c))
theorem FindR.uniq {pl : Nat} {bd : Nat → Option (Int × Int)} {f c f' c' : Int} (h : FindR pl bd f c) (h' : FindR pl bd f' c') : f = f' ∧ c = c' := by
  obtain ⟨h1, ⟨r, e, w⟩ | ⟨r, r2, f1, c1, e, w, n, e2, w2⟩⟩ := h <;> obtain ⟨h1', ⟨r', e', w'⟩ | ⟨r', r2', f1', c1', e', w', n', e2', w2'⟩⟩ := h'
  · rw [e] at e'; cases e'; exact ⟨w.hf.symm.trans w'.hf, w.hc.symm.trans w'.hc⟩
  · rw [e] at e'; cases e'; have := w.hf.symm.trans w'.hf; have := w.hc.symm.trans w'.hc; omega
  · rw [e] at e'; cases e'; have := w.hf.symm.trans w'.hf; have := w.hc.symm.trans w'.hc; omega
  · rw [e2] at e2'; cases e2'; exact ⟨w2.hf.symm.trans w2'.hf, w2.hc.symm.trans w2'.hc⟩
theorem cell_find {l m l1 m1 l2 m2 l3 m3 l4 m4 : List UInt8} {g : Nat} {lb : List Value} {a b la lb0 ha hb : Int} {pl : Nat} {w : World} {bd : Nat → Option (Int × Int)} {f c : Int} (hF : FindR pl bd f c) (e : (l, m) = qR a b) (h : Q9 a b) (ha12 : a.natAbs < 10 ^ 12) (hb12 : b < 10 ^ 12) (e1 : (l1, m1) = qR la lb0) (q1 : Q9 la lb0) (e2 : (l2, m2) = qR ha hb) (q2 : Q9 ha hb) (hrt : rightB pl a b la lb0 ha hb = true) (hp : pl ≤ 12) (hne : ¬ ((l, m) : R) = (l3, m3)) (hg : Enters Tryz.prog g)
    (hbd : ∀ k r, k ≤ 40 → bd k = some r → ∀ W, Ext w W → Calls Tryz.prog g ([.agg #[.int .i64 ((pl + k : Nat) : Int), S (nS (10 ^ (pl + k)))], .agg #[S l, S m]].toArray ++ lb.toArray) W (Ret W fun v _ => v = .agg #[S (showI r.1), S (showI r.2)])) (ht : Tb w) :
    Calls Tryz.prog 77 #[.agg #[S (l1), S (m1), S (l2), S (m2), S (l3), S (m3), S (l4), S (m4), .func (.func g) #[] lb.toArray], .agg #[S (l), S (m)], .int .i64 ((pl : Nat) : Int)] w (Ret w fun v _ => v = CellV pl f c) := by
  obtain ⟨h1, ⟨r, er, w⟩ | ⟨r, r2, f1, c1, er, w, n, er2, w2⟩⟩ := hF
  · exact cell_ok e h ha12 hb12 e1 q1 e2 q2 hrt hp hne hg (hbd 15 r (by decide) er) (w.r h1) ht
  · exact cell_two e h ha12 hb12 e1 q1 e2 q2 hrt hp hne hg (hbd 15 r (by decide) er) (hbd 40 r2 (by decide) er2) w n w2 h1 ht
theorem cell_at2 {l m l1 m1 l2 m2 l3 m3 l4 m4 : List UInt8} {g : Nat} {lb : List Value} {a b la lb0 ha hb va vb f c : Int} {pl : Nat} {w : World} (hf : flI va vb (tenI pl) = f) (hc : clI va vb (tenI pl) = c) (e : (l, m) = qR a b) (h : Q9 a b) (ha12 : a.natAbs < 10 ^ 12) (hb12 : b < 10 ^ 12) (e1 : (l1, m1) = qR la lb0) (q1 : Q9 la lb0) (e2 : (l2, m2) = qR ha hb) (q2 : Q9 ha hb) (e4 : (l4, m4) = qR va vb) (q4 : Q9 va vb) (hrt : rightB pl a b la lb0 ha hb = true) (hp : pl ≤ 12) (heq : ((l, m) : R) = (l3, m3)) (ht : Tb w) :
    Calls Tryz.prog 77 #[.agg #[S (l1), S (m1), S (l2), S (m2), S (l3), S (m3), S (l4), S (m4), .func (.func g) #[] lb.toArray], .agg #[S (l), S (m)], .int .i64 ((pl : Nat) : Int)] w (Ret w fun v _ => v = CellV pl f c) := by
  subst hf hc
  exact cell_at e h ha12 hb12 e1 q1 e2 q2 e4 q4 hrt hp heq ht
theorem rightB_ok {pl : Nat} {a b la lb ha hb : Int} (hp : pl ≤ 12) (h1 : la * b ≤ a * lb) (h2 : a * hb ≤ ha * b) : rightB pl a b la lb ha hb = true := by
  unfold rightB
  rw [decide_eq_true (by omega), decide_eq_true (cmpI_swap0.2 h1), decide_eq_true (cmpI_nonpos.2 h2)]; rfl
theorem sc_pow {n : Nat} (h : n ≤ 90) : Sc (10 ^ n) := ⟨Nat.pow_pos (by decide), Nat.pow_lt_pow_right (by decide) (by omega)⟩
theorem qR_ne {a b c d : Int} (hb : 0 < b) (hd : 0 < d) {r : R} (e : r = qR c d) (h : a * d ≠ c * b) : ¬ (((qR a b).1, (qR a b).2) : R) = r := fun x => h (qR_inj hb hd (x.trans e))
theorem q9_12 {a b : Int} (ha : a.natAbs < 10 ^ 12) (h0 : 0 < b) (hb : b < 10 ^ 12) : Q9 a b := ⟨Nat.lt_trans ha (by decide), h0, by omega⟩
section
variable {a b : Int} {pl : Nat} {f c : Int} {w : World}
theorem zero_q (hb : 0 < b) (h0 : a = 0) : (((qR a b).1, (qR a b).2) : R) = ([48], [49]) := by
  have h : qR a b = qR 0 1 := qR_congr hb (by decide) (by omega)
  rw [q01, ← h]
end
section
variable {a b : Int} {pl : Nat} {f c : Int} {w : World}
def nrmBd (pl : Nat) (a b : Int) (k : Nat) : Option (Int × Int) := nrP (10 ^ (pl + k)) (pl + k) (redN a b) (redD a b).toNat
theorem nrm_right (hb : 0 < b) (h9 : a.natAbs ≤ 1000000 * b.natAbs) (hp : pl ≤ 12) : rightB pl a b (-10000000000000) 1 10000000000000 1 = true := rightB_ok hp (by omega) (by omega)
theorem normal_q (ha12 : a.natAbs < 10 ^ 12) (hb : 0 < b) (hb12 : b < 10 ^ 12) (h0 : a ≠ 0) (hlo : -8 * b < a) (hhi : a < 8 * b) (hp : pl ≤ 12) (hF : FindR pl (nrmBd pl a b) f c) (ht : Tb w) :
    Calls Tryz.prog 43 #[.agg #[S (qR a b).1, S (qR a b).2], .int .i64 ((pl : Nat) : Int)] w (Ret w fun v _ => v = CellV pl f c) := by
  have q := q9_12 ha12 hb hb12
  have hrt := nrm_right (a := a) (pl := pl) hb (by omega) hp
  refine Normal_ok rfl q ha12 hb12 hrt (cmpI_gt0 (by omega)) (cmpI_lt0 (by omega)) (fun W e => cell_find (lb := []) hF rfl q ha12 hb12 qn13 q9n13 qp13 q9p13 hrt hp (qR_ne hb (by decide) q01 (by omega)) en1051 ?_ (ht.ext e)) ht
  intro k r hk hr W' e'
  rw [qR_str hb]
  exact normal_ok (sc_pow (by omega)) (by omega) hr ((ht.ext e).ext e')
theorem normal_z (hb : 0 < b) (hb12 : b < 10 ^ 12) (h0 : a = 0) (hp : pl ≤ 12) (ht : Tb w) :
    Calls Tryz.prog 43 #[.agg #[S (qR a b).1, S (qR a b).2], .int .i64 ((pl : Nat) : Int)] w (Ret w fun v _ => v = CellV pl (flI 1 2 (tenI pl)) (clI 1 2 (tenI pl))) := by
  have ha12 : a.natAbs < 10 ^ 12 := by subst h0; decide
  have q := q9_12 ha12 hb hb12
  have hz := zero_q hb h0
  have hrt := nrm_right (a := a) (pl := pl) hb (by omega) hp
  have q2 : Q9 1 2 := ⟨by decide, by decide, by decide⟩
  refine Normal_ok rfl q ha12 hb12 hrt (cmpI_gt0 (by omega)) (cmpI_lt0 (by omega)) (fun W e => ?_) ht
  exact cell_at2 (lb := []) rfl rfl rfl q ha12 hb12 qn13 q9n13 qp13 q9p13 q12 q2 hrt hp hz (ht.ext e)
theorem neg_q (hb : 0 < b) : neg (qR a b).1 = decide (a < 0) := by
  show neg (showI (redN a b)) = _
  rw [neg_showI]
  have h1 := rq_n (n := a) hb
  have h2 := gcd_pos (n := a) hb
  generalize ((Int.gcd a b : Nat) : Int) = g at *
  generalize redN a b = x at *
  subst h1
  by_cases h : x < 0
  · rw [decide_eq_true h, decide_eq_true (Int.mul_neg_of_neg_of_pos h h2)]
  · rw [decide_eq_false h, decide_eq_false (by have := Int.mul_nonneg (show 0 ≤ x by omega) (Int.le_of_lt h2); omega)]
theorem normal_lo (ha12 : a.natAbs < 10 ^ 12) (hb : 0 < b) (hb12 : b < 10 ^ 12) (hlo : a ≤ -8 * b) (h9 : a.natAbs ≤ 1000000 * b.natAbs) (hp : pl ≤ 12) (ht : Tb w) :
    Calls Tryz.prog 43 #[.agg #[S (qR a b).1, S (qR a b).2], .int .i64 ((pl : Nat) : Int)] w (Ret w fun v _ => v = CellV pl 0 1) := by
  have h := Normal_lo (l := (qR a b).1) (m := (qR a b).2) rfl (q9_12 ha12 hb hb12) ha12 hb12 hp (nrm_right hb h9 hp) (cmpI_ngt (by omega)) ((neg_q hb).trans (decide_eq_true (by omega))) ht
  have e : (([48], [49]) : R) = qR 0 (tenI pl) := q01.trans (qR_congr (by decide) (ten_pos pl) (by omega))
  rw [show ([48] : List UInt8) = (qR 0 (tenI pl)).1 from congrArg Prod.fst e, show ([49] : List UInt8) = (qR 0 (tenI pl)).2 from congrArg Prod.snd e] at h
  exact h
theorem normal_hi (ha12 : a.natAbs < 10 ^ 12) (hb : 0 < b) (hb12 : b < 10 ^ 12) (hhi : 8 * b ≤ a) (h9 : a.natAbs ≤ 1000000 * b.natAbs) (hp : pl ≤ 12) (ht : Tb w) :
    Calls Tryz.prog 43 #[.agg #[S (qR a b).1, S (qR a b).2], .int .i64 ((pl : Nat) : Int)] w (Ret w fun v _ => v = CellV pl (tenI pl - 1) (tenI pl)) := by
  have h := Normal_hi (l := (qR a b).1) (m := (qR a b).2) rfl (q9_12 ha12 hb hb12) ha12 hb12 hp (nrm_right hb h9 hp) (cmpI_gt0 (by omega)) (cmpI_nlt (by omega)) ((neg_q hb).trans (decide_eq_false (by omega))) ht
  have hT := ten_pos pl
  have e : (([49], [49]) : R) = qR (tenI pl) (tenI pl) := q11.trans (qR_congr (by decide) hT (by omega))
  have e1 : ([49] : List UInt8) = (qR (tenI pl) (tenI pl)).1 := congrArg Prod.fst e
  have e2 : ([49] : List UInt8) = (qR (tenI pl) (tenI pl)).2 := congrArg Prod.snd e
  rw [Int.one_mul, Int.one_mul] at h
  unfold CellV
  rw [← e1, ← e2]
  exact h
end
theorem ten_le60 {n : Nat} (h : n ≤ 60) : tenI n ≤ 10 ^ 60 := by
  unfold tenI
  have h1 : (10 : Nat) ^ n ≤ 10 ^ 60 := Nat.pow_le_pow_right (by decide) h
  have h2 : (((10 : Nat) ^ 60 : Nat) : Int) = (10 : Int) ^ 60 := by norm_cast
  omega
theorem cellW_ok (k pl : Nat) {a b : Nat} (h1 : a ≤ b) (h2 : b ≤ 1000000000000000000000000000000000000000000000000000000000000) :
    CellW k pl ((a : Int), (b : Int)) ((a / 10 ^ k : Nat) : Int) ((upn b (10 ^ k) : Nat) : Int) ∧ CellW k pl (-(b : Int), -(a : Int)) (-((upn b (10 ^ k) : Nat) : Int)) (-((a / 10 ^ k : Nat) : Int)) := by
  have hp : 0 < 10 ^ k := Nat.pow_pos (by decide)
  have f1 : a / 10 ^ k ≤ a := Nat.div_le_self _ _
  have f2 : upn b (10 ^ k) ≤ b := upn_le hp
  have hle : a / 10 ^ k ≤ upn b (10 ^ k) := by rw [upn_eq hp]; exact Nat.div_le_div_right (by omega)
  have l1 : (1000000000000000000000000000000000000000000000000000000000000 : Nat) < 10 ^ 70 := by decide
  have l2 : (1000000000000000000000000000000000000000000000000000000000000 : Nat) < 10 ^ 90 := by decide
  generalize he : a / 10 ^ k = f at *
  generalize hu : upn b (10 ^ k) = c at *
  refine ⟨⟨by simp only; omega, by simp only; omega, by simp only; omega, by rw [← he]; exact fl_n, by rw [← hu]; exact cl_n, by omega, by omega, by omega⟩, ⟨by simp only; omega, by simp only; omega, by simp only; omega, ?_, ?_, by omega, by omega, by omega⟩⟩
  · rw [flI_neg (ten_pos _)]; simp only [cl_n, hu]
  · rw [clI_neg (ten_pos _)]; simp only [fl_n, he]
theorem cellW_shift {k pl : Nat} {a b f c : Nat} (h : CellW k pl (-(b : Int), -(a : Int)) (-(c : Int)) (-(f : Int))) (hp : pl + k ≤ 60) : CellW k pl (tenI (pl + k) - (b : Int), tenI (pl + k) - (a : Int)) (tenI pl - (c : Int)) (tenI pl - (f : Int)) := by
  obtain ⟨b1, b2, le, hf, hc, f9, c9, fc⟩ := h
  have hS : tenI (pl + k) ≤ 10 ^ 60 := ten_le60 hp
  have hS0 := ten_pos (pl + k)
  have hT0 := ten_pos pl
  have hT : tenI pl ≤ 10 ^ 60 := ten_le60 (by omega)
  simp only at b1 b2 le hf hc
  refine ⟨by simp only; omega, by simp only; omega, by simp only; omega, ?_, ?_, by omega, by omega, by omega⟩
  · simp only
    unfold flI at *
    rw [show tenI (pl + k) - (b : Int) = -(b : Int) + tenI (pl + k) by omega, Int.add_mul, Int.add_mul_ediv_left _ _ (by omega), hf]
    omega
  · simp only
    unfold clI at *
    rw [show tenI (pl + k) - (a : Int) = -(a : Int) + tenI (pl + k) by omega, Int.add_mul, Int.add_mul_ediv_left _ _ (by omega), Int.add_mul_emod_self_left]
    split at hc
    · rename_i h0; rw [if_pos h0]; omega
    · rename_i h0; rw [if_neg h0]; omega
def nrB (pl : Nat) (N : Int) (d : Nat) (k : Nat) : Option (Int × Int) := nrP (10 ^ (pl + k)) (pl + k) N d
def PosR (pl n d f c : Nat) : Prop := 0 < n ∧ FindR pl (nrB pl (n : Int) d) (f : Int) (c : Int) ∧ FindR pl (nrB pl (-(n : Int)) d) (tenI pl - c) (tenI pl - f)
theorem nr_half {S H pl n d : Nat} {h : N2} (hn : 0 < n) (hH : S = 2 * H) (hh : hnP S pl n d = some h) : nrP S pl (n : Int) d = some (((H + h.1 : Nat) : Int), ((H + h.2 : Nat) : Int)) ∧ nrP S pl (-(n : Int)) d = some ((S : Int) - ((H + h.2 : Nat) : Int), (S : Int) - ((H + h.1 : Nat) : Int)) := by
  have hof : ofP S 1 2 = (H, H) := by
    unfold ofP
    rw [upn_eq (by decide), Nat.one_mul, hH, Nat.mul_div_cancel_left _ (by decide)]
    congr 1
    omega
  unfold nrP
  constructor
  · rw [show ((n : Int)).natAbs = n from rfl, hh, Option.map_some, if_neg (by omega), hof]; rfl
  · rw [show (-(n : Int)).natAbs = n by omega, hh, Option.map_some, if_pos (by omega), hof]
    unfold miP
    simp only []
    rw [show (H : Int) - (h.2 : Int) = (S : Int) - ((H + h.2 : Nat) : Int) by omega, show (H : Int) - (h.1 : Int) = (S : Int) - ((H + h.1 : Nat) : Int) by omega]
theorem round_half {k pl H n d : Nat} {h : N2} (hn : 0 < n) (hp : pl + k ≤ 60) (hH : 10 ^ (pl + k) = 2 * H) (hh : hnP (10 ^ (pl + k)) (pl + k) n d = some h) (h1 : H + h.1 ≤ H + h.2) (h2 : H + h.2 ≤ 1000000000000000000000000000000000000000000000000000000000000) :
    ∃ r s, nrB pl (n : Int) d k = some r ∧ CellW k pl r (((H + h.1) / 10 ^ k : Nat) : Int) ((upn (H + h.2) (10 ^ k) : Nat) : Int) ∧ nrB pl (-(n : Int)) d k = some s ∧ CellW k pl s (tenI pl - ((upn (H + h.2) (10 ^ k) : Nat) : Int)) (tenI pl - (((H + h.1) / 10 ^ k : Nat) : Int)) := by
  obtain ⟨e1, e2⟩ := nr_half hn hH hh
  obtain ⟨c1, c2⟩ := cellW_ok k pl h1 h2
  refine ⟨_, _, e1, c1, e2, ?_⟩
  have e : ((10 ^ (pl + k) : Nat) : Int) = tenI (pl + k) := rfl
  rw [e]
  exact cellW_shift c2 hp
theorem p40 : (10 : Nat) ^ 40 = 10000000000000000000000000000000000000000 := by decide +kernel
def nmCk2 (S S1 H c1 c2 S' S1' H' c1' c2' : Nat) (n d : Nat) (K : Nat → Nat → Bool) : Bool := hnK S S1 c1 c2 (fun r1 r2 => fz (Nat.add H r1) fun a => fz (Nat.add H r2) fun b =>
  cond (and (Nat.ble a b) (Nat.ble b 1000000000000000000000000000000000000000000000000000000000000)) (fz (Nat.div a 1000000000000000) fun f => fz (Nat.div (Nat.add b (Nat.pred 1000000000000000)) 1000000000000000) fun c => cond (Nat.ble c (Nat.succ f)) (K f c)
    (hnK S' S1' c1' c2' (fun r1 r2 => fz (Nat.add H' r1) fun a => fz (Nat.add H' r2) fun b => cellK 10000000000000000000000000000000000000000 a b K) n d)) false) n d
theorem nmCk2_ok {S S1 H S' S1' H' pl n d : Nat} {c c' : N2} {K : Nat → Nat → Bool} (hp : pl ≤ 12) (hS : S = 10 ^ (pl + 15)) (h1 : S1 = S - 1) (hH : S = 2 * H) (hc : rootP S (byP (piN (pl + 15), piN (pl + 15) + 1) 2 1) = some c) (hcb : bdB c = true)
    (hS' : S' = 10 ^ (pl + 40)) (h1' : S1' = S' - 1) (hH' : S' = 2 * H') (hc' : rootP S' (byP (piN (pl + 40), piN (pl + 40) + 1) 2 1) = some c') (hcb' : bdB c' = true) (hn : 0 < n) (hd : 0 < d) (hk : nmCk2 S S1 H c.1 c.2 S' S1' H' c'.1 c'.2 n d K = true) : ∃ f g, PosR pl n d f g ∧ K f g = true := by
  have hS0 : 0 < S := by rw [hS]; exact Nat.pow_pos (by decide)
  have hS0' : 0 < S' := by rw [hS']; exact Nat.pow_pos (by decide)
  obtain ⟨h, hh, hq⟩ := hnK_ok hS0 h1 hc hcb hd hk
  clear hk
  have hk := hq
  clear hq
  rw [fz_eq, fz_eq] at hk
  rcases cond_t hk with ⟨h2, hk⟩ | ⟨_, hk⟩
  · simp only [Bool.and_eq_true, Nat.ble_eq] at h2
    obtain ⟨h2, h3⟩ := h2
    simp only [fz_eq] at hk
    subst hS
    obtain ⟨r, s, e1, w1, e2, w2⟩ := round_half (k := 15) hn (by omega) hH hh h2 h3
    have e3 : Nat.div (Nat.add H h.1) 1000000000000000 = (H + h.1) / 10 ^ 15 := rfl
    have e4 : Nat.div (Nat.add (Nat.add H h.2) (Nat.pred 1000000000000000)) 1000000000000000 = upn (H + h.2) (10 ^ 15) := by rw [upn_eq (by decide)]; rfl
    rw [e3, e4] at hk
    rcases cond_t hk with ⟨h4, hk⟩ | ⟨h4, hk⟩
    · rw [Nat.ble_eq] at h4
      refine ⟨(H + h.1) / 10 ^ 15, upn (H + h.2) (10 ^ 15), ⟨hn, ⟨by omega, Or.inl ⟨r, e1, w1⟩⟩, ⟨by omega, Or.inl ⟨s, e2, w2⟩⟩⟩, hk⟩
    · have h5 : (H + h.1) / 10 ^ 15 + 1 < upn (H + h.2) (10 ^ 15) := by
        rcases Nat.lt_or_ge ((H + h.1) / 10 ^ 15 + 1) (upn (H + h.2) (10 ^ 15)) with x | x
        · exact x
        · rw [show Nat.ble (upn (H + h.2) (10 ^ 15)) (Nat.succ ((H + h.1) / 10 ^ 15)) = true from Nat.ble_eq_true_of_le x] at h4; cases h4
      obtain ⟨h', hh', hk⟩ := hnK_ok hS0' h1' hc' hcb' hd hk
      unfold cellK at hk
      rcases cond_t hk with ⟨h6, hk⟩ | ⟨_, hk⟩
      · simp only [Bool.and_eq_true, Nat.ble_eq] at h6
        obtain ⟨h6, h7⟩ := h6
        simp only [fz_eq] at hk
        rcases cond_t hk with ⟨h8, hk⟩ | ⟨_, hk⟩
        · rw [Nat.ble_eq] at h8
          have hH2 : 10 ^ (pl + 40) = 2 * H' := by rw [← hS']; exact hH'
          have hh2 : hnP (10 ^ (pl + 40)) (pl + 40) n d = some h' := by rw [← hS']; exact hh'
          obtain ⟨r', s', e1', w1', e2', w2'⟩ := round_half (k := 40) hn (by omega) hH2 hh2 h6 h7
          have e5 : Nat.div (Nat.add H' h'.1) 10000000000000000000000000000000000000000 = (H' + h'.1) / 10 ^ 40 := by rw [p40]; rfl
          have e6 : Nat.div (Nat.add (Nat.add H' h'.2) (Nat.pred 10000000000000000000000000000000000000000)) 10000000000000000000000000000000000000000 = upn (H' + h'.2) (10 ^ 40) := by rw [p40, upn_eq (by decide)]; rfl
          rw [e5, e6] at hk h8
          refine ⟨(H' + h'.1) / 10 ^ 40, upn (H' + h'.2) (10 ^ 40), ⟨hn, ⟨by omega, Or.inr ⟨r, r', _, _, e1, w1, by omega, e1', w1'⟩⟩, ⟨by omega, Or.inr ⟨s, s', _, _, e2, w2, by omega, e2', w2'⟩⟩⟩, hk⟩
        · cases hk
      · cases hk
  · cases hk
def CkR (pl : Nat) (ck : Nat → Nat → (Nat → Nat → Bool) → Bool) : Prop := ∀ n d K, 0 < n → 0 < d → ck n d K = true → ∃ f c, PosR pl n d f c ∧ K f c = true
def stK (ck : Nat → Nat → (Nat → Nat → Bool) → Bool) (T p : Nat) (K : Nat → Nat → Bool) (n d lo hi : Nat) : Bool :=
  ck n d fun f c => cond (and (Nat.ble T (Nat.mul 2 f)) (Nat.ble c T)) (fz (Nat.mul f p) fun f8 => fz (Nat.mul c p) fun c8 => fz (cond (Nat.ble lo f8) f8 lo) fun l => fz (cond (Nat.ble c8 hi) c8 hi) fun h => K l h) false
def CelR (pl p n d lo hi : Nat) : Prop := ∃ f c, PosR pl n d f c ∧ 10 ^ pl ≤ 2 * f ∧ c ≤ 10 ^ pl ∧ f * p ≤ lo ∧ hi ≤ c * p
theorem stK_ok {ck : Nat → Nat → (Nat → Nat → Bool) → Bool} {pl T p n d lo hi : Nat} {K : Nat → Nat → Bool} (hc : CkR pl ck) (hT : T = 10 ^ pl) (hn : 0 < n) (hd : 0 < d) (h : stK ck T p K n d lo hi = true) : ∃ l h, lo ≤ l ∧ h ≤ hi ∧ CelR pl p n d l h ∧ K l h = true := by
  obtain ⟨f, c, hP, hk⟩ := hc n d _ hn hd h
  rcases cond_t hk with ⟨h1, hk⟩ | ⟨_, hk⟩
  · simp only [Bool.and_eq_true, Nat.ble_eq] at h1
    obtain ⟨h1, h2⟩ := h1
    rw [fz_eq, fz_eq, fz_eq, fz_eq] at hk
    have e1 : ∀ {x y : Nat}, x ≤ cond (Nat.ble x y) y x ∧ y ≤ cond (Nat.ble x y) y x := by
      intro x y
      cases hb : Nat.ble x y
      · have : ¬ x ≤ y := fun e => by rw [Nat.ble_eq_true_of_le e] at hb; cases hb
        exact ⟨Nat.le_refl _, by show y ≤ x; omega⟩
      · exact ⟨Nat.le_of_ble_eq_true hb, Nat.le_refl _⟩
    have e2 : ∀ {x y : Nat}, cond (Nat.ble x y) x y ≤ x ∧ cond (Nat.ble x y) x y ≤ y := by
      intro x y
      cases hb : Nat.ble x y
      · have : ¬ x ≤ y := fun e => by rw [Nat.ble_eq_true_of_le e] at hb; cases hb
        exact ⟨by show y ≤ x; omega, Nat.le_refl _⟩
      · exact ⟨Nat.le_refl _, Nat.le_of_ble_eq_true hb⟩
    refine ⟨_, _, e1.1, e2.2, ⟨f, c, hP, by rw [← hT]; exact h1, by rw [← hT]; exact h2, e1.2, e2.1⟩, hk⟩
  · cases hk
theorem CelR.weak {pl p n d lo hi lo' hi' : Nat} (h : CelR pl p n d lo hi) (h1 : lo ≤ lo') (h2 : hi' ≤ hi) : CelR pl p n d lo' hi' := by
  obtain ⟨f, c, a, b, e, g, k⟩ := h
  exact ⟨f, c, a, b, e, by omega, by omega⟩
theorem nmc1 : rootP 10000000000000000 (byP (piN 16, piN 16 + 1) 2 1) = some (25066282746310004, 25066282746310006) := by decide +kernel
theorem nmd1 : rootP 100000000000000000000000000000000000000000 (byP (piN 41, piN 41 + 1) 2 1) = some (250662827463100050241576528481104525300698, 250662827463100050241576528481104525300699) := by decide +kernel
def nmk1 : Nat → Nat → (Nat → Nat → Bool) → Bool := nmCk2 10000000000000000 9999999999999999 5000000000000000 25066282746310004 25066282746310006 100000000000000000000000000000000000000000 99999999999999999999999999999999999999999 50000000000000000000000000000000000000000 250662827463100050241576528481104525300698 250662827463100050241576528481104525300699
theorem nmo1 : CkR 1 nmk1 := fun n d K h1 h2 hk => nmCk2_ok (by decide) (by decide +kernel) (by decide +kernel) (by decide +kernel) nmc1 (by decide +kernel) (by decide +kernel) (by decide +kernel) (by decide +kernel) nmd1 (by decide +kernel) h1 h2 hk
theorem nmc2 : rootP 100000000000000000 (byP (piN 17, piN 17 + 1) 2 1) = some (250662827463100049, 250662827463100051) := by decide +kernel
theorem nmd2 : rootP 1000000000000000000000000000000000000000000 (byP (piN 42, piN 42 + 1) 2 1) = some (2506628274631000502415765284811045253006986, 2506628274631000502415765284811045253006987) := by decide +kernel
def nmk2 : Nat → Nat → (Nat → Nat → Bool) → Bool := nmCk2 100000000000000000 99999999999999999 50000000000000000 250662827463100049 250662827463100051 1000000000000000000000000000000000000000000 999999999999999999999999999999999999999999 500000000000000000000000000000000000000000 2506628274631000502415765284811045253006986 2506628274631000502415765284811045253006987
theorem nmo2 : CkR 2 nmk2 := fun n d K h1 h2 hk => nmCk2_ok (by decide) (by decide +kernel) (by decide +kernel) (by decide +kernel) nmc2 (by decide +kernel) (by decide +kernel) (by decide +kernel) (by decide +kernel) nmd2 (by decide +kernel) h1 h2 hk
theorem nmc3 : rootP 1000000000000000000 (byP (piN 18, piN 18 + 1) 2 1) = some (2506628274631000502, 2506628274631000503) := by decide +kernel
theorem nmd3 : rootP 10000000000000000000000000000000000000000000 (byP (piN 43, piN 43 + 1) 2 1) = some (25066282746310005024157652848110452530069867, 25066282746310005024157652848110452530069868) := by decide +kernel
def nmk3 : Nat → Nat → (Nat → Nat → Bool) → Bool := nmCk2 1000000000000000000 999999999999999999 500000000000000000 2506628274631000502 2506628274631000503 10000000000000000000000000000000000000000000 9999999999999999999999999999999999999999999 5000000000000000000000000000000000000000000 25066282746310005024157652848110452530069867 25066282746310005024157652848110452530069868
theorem nmo3 : CkR 3 nmk3 := fun n d K h1 h2 hk => nmCk2_ok (by decide) (by decide +kernel) (by decide +kernel) (by decide +kernel) nmc3 (by decide +kernel) (by decide +kernel) (by decide +kernel) (by decide +kernel) nmd3 (by decide +kernel) h1 h2 hk
theorem nmc4 : rootP 10000000000000000000 (byP (piN 19, piN 19 + 1) 2 1) = some (25066282746310005023, 25066282746310005025) := by decide +kernel
theorem nmd4 : rootP 100000000000000000000000000000000000000000000 (byP (piN 44, piN 44 + 1) 2 1) = some (250662827463100050241576528481104525300698673, 250662827463100050241576528481104525300698675) := by decide +kernel
def nmk4 : Nat → Nat → (Nat → Nat → Bool) → Bool := nmCk2 10000000000000000000 9999999999999999999 5000000000000000000 25066282746310005023 25066282746310005025 100000000000000000000000000000000000000000000 99999999999999999999999999999999999999999999 50000000000000000000000000000000000000000000 250662827463100050241576528481104525300698673 250662827463100050241576528481104525300698675
theorem nmo4 : CkR 4 nmk4 := fun n d K h1 h2 hk => nmCk2_ok (by decide) (by decide +kernel) (by decide +kernel) (by decide +kernel) nmc4 (by decide +kernel) (by decide +kernel) (by decide +kernel) (by decide +kernel) nmd4 (by decide +kernel) h1 h2 hk
theorem nmc5 : rootP 100000000000000000000 (byP (piN 20, piN 20 + 1) 2 1) = some (250662827463100050241, 250662827463100050242) := by decide +kernel
theorem nmd5 : rootP 1000000000000000000000000000000000000000000000 (byP (piN 45, piN 45 + 1) 2 1) = some (2506628274631000502415765284811045253006986740, 2506628274631000502415765284811045253006986741) := by decide +kernel
def nmk5 : Nat → Nat → (Nat → Nat → Bool) → Bool := nmCk2 100000000000000000000 99999999999999999999 50000000000000000000 250662827463100050241 250662827463100050242 1000000000000000000000000000000000000000000000 999999999999999999999999999999999999999999999 500000000000000000000000000000000000000000000 2506628274631000502415765284811045253006986740 2506628274631000502415765284811045253006986741
theorem nmo5 : CkR 5 nmk5 := fun n d K h1 h2 hk => nmCk2_ok (by decide) (by decide +kernel) (by decide +kernel) (by decide +kernel) nmc5 (by decide +kernel) (by decide +kernel) (by decide +kernel) (by decide +kernel) nmd5 (by decide +kernel) h1 h2 hk
theorem nmc6 : rootP 1000000000000000000000 (byP (piN 21, piN 21 + 1) 2 1) = some (2506628274631000502415, 2506628274631000502416) := by decide +kernel
theorem nmd6 : rootP 10000000000000000000000000000000000000000000000 (byP (piN 46, piN 46 + 1) 2 1) = some (25066282746310005024157652848110452530069867405, 25066282746310005024157652848110452530069867407) := by decide +kernel
def nmk6 : Nat → Nat → (Nat → Nat → Bool) → Bool := nmCk2 1000000000000000000000 999999999999999999999 500000000000000000000 2506628274631000502415 2506628274631000502416 10000000000000000000000000000000000000000000000 9999999999999999999999999999999999999999999999 5000000000000000000000000000000000000000000000 25066282746310005024157652848110452530069867405 25066282746310005024157652848110452530069867407
theorem nmo6 : CkR 6 nmk6 := fun n d K h1 h2 hk => nmCk2_ok (by decide) (by decide +kernel) (by decide +kernel) (by decide +kernel) nmc6 (by decide +kernel) (by decide +kernel) (by decide +kernel) (by decide +kernel) nmd6 (by decide +kernel) h1 h2 hk
theorem nmc7 : rootP 10000000000000000000000 (byP (piN 22, piN 22 + 1) 2 1) = some (25066282746310005024157, 25066282746310005024158) := by decide +kernel
theorem nmd7 : rootP 100000000000000000000000000000000000000000000000 (byP (piN 47, piN 47 + 1) 2 1) = some (250662827463100050241576528481104525300698674060, 250662827463100050241576528481104525300698674062) := by decide +kernel
def nmk7 : Nat → Nat → (Nat → Nat → Bool) → Bool := nmCk2 10000000000000000000000 9999999999999999999999 5000000000000000000000 25066282746310005024157 25066282746310005024158 100000000000000000000000000000000000000000000000 99999999999999999999999999999999999999999999999 50000000000000000000000000000000000000000000000 250662827463100050241576528481104525300698674060 250662827463100050241576528481104525300698674062
theorem nmo7 : CkR 7 nmk7 := fun n d K h1 h2 hk => nmCk2_ok (by decide) (by decide +kernel) (by decide +kernel) (by decide +kernel) nmc7 (by decide +kernel) (by decide +kernel) (by decide +kernel) (by decide +kernel) nmd7 (by decide +kernel) h1 h2 hk
theorem nmc8 : rootP 100000000000000000000000 (byP (piN 23, piN 23 + 1) 2 1) = some (250662827463100050241576, 250662827463100050241577) := by decide +kernel
theorem nmd8 : rootP 1000000000000000000000000000000000000000000000000 (byP (piN 48, piN 48 + 1) 2 1) = some (2506628274631000502415765284811045253006986740609, 2506628274631000502415765284811045253006986740611) := by decide +kernel
def nmk8 : Nat → Nat → (Nat → Nat → Bool) → Bool := nmCk2 100000000000000000000000 99999999999999999999999 50000000000000000000000 250662827463100050241576 250662827463100050241577 1000000000000000000000000000000000000000000000000 999999999999999999999999999999999999999999999999 500000000000000000000000000000000000000000000000 2506628274631000502415765284811045253006986740609 2506628274631000502415765284811045253006986740611
theorem nmo8 : CkR 8 nmk8 := fun n d K h1 h2 hk => nmCk2_ok (by decide) (by decide +kernel) (by decide +kernel) (by decide +kernel) nmc8 (by decide +kernel) (by decide +kernel) (by decide +kernel) (by decide +kernel) nmd8 (by decide +kernel) h1 h2 hk
def cel8 (n d : Nat) (K : Nat → Nat → Bool) : Bool := (stK nmk1 10 10000000 (fun l h => (stK nmk2 100 1000000 (fun l h => (stK nmk3 1000 100000 (fun l h => (stK nmk4 10000 10000 (fun l h => (stK nmk5 100000 1000 (fun l h => (stK nmk6 1000000 100 (fun l h => (stK nmk7 10000000 10 (fun l h => (stK nmk8 100000000 1 K n d) l h) n d) l h) n d) l h) n d) l h) n d) l h) n d) l h) n d) l h) n d) 0 100000000
def All8 (n d lo hi : Nat) : Prop := CelR 1 10000000 n d lo hi ∧ CelR 2 1000000 n d lo hi ∧ CelR 3 100000 n d lo hi ∧ CelR 4 10000 n d lo hi ∧ CelR 5 1000 n d lo hi ∧ CelR 6 100 n d lo hi ∧ CelR 7 10 n d lo hi ∧ CelR 8 1 n d lo hi
theorem cel8_ok {n d : Nat} {K : Nat → Nat → Bool} (hn : 0 < n) (hd : 0 < d) (h : cel8 n d K = true) : ∃ lo hi, All8 n d lo hi ∧ K lo hi = true := by
  unfold cel8 at h
  obtain ⟨l1, h1, a1, b1, c1, h⟩ := stK_ok nmo1 (by decide) hn hd h
  obtain ⟨l2, h2, a2, b2, c2, h⟩ := stK_ok nmo2 (by decide) hn hd h
  obtain ⟨l3, h3, a3, b3, c3, h⟩ := stK_ok nmo3 (by decide) hn hd h
  obtain ⟨l4, h4, a4, b4, c4, h⟩ := stK_ok nmo4 (by decide) hn hd h
  obtain ⟨l5, h5, a5, b5, c5, h⟩ := stK_ok nmo5 (by decide) hn hd h
  obtain ⟨l6, h6, a6, b6, c6, h⟩ := stK_ok nmo6 (by decide) hn hd h
  obtain ⟨l7, h7, a7, b7, c7, h⟩ := stK_ok nmo7 (by decide) hn hd h
  obtain ⟨l8, h8, a8, b8, c8, h⟩ := stK_ok nmo8 (by decide) hn hd h
  exact ⟨l8, h8, ⟨c1.weak (by omega) (by omega), c2.weak (by omega) (by omega), c3.weak (by omega) (by omega), c4.weak (by omega) (by omega), c5.weak (by omega) (by omega), c6.weak (by omega) (by omega), c7.weak (by omega) (by omega), c8.weak (by omega) (by omega)⟩, h⟩
theorem All8.at {n d lo hi pl : Nat} (h : All8 n d lo hi) (h1 : 1 ≤ pl) (h2 : pl ≤ 8) : CelR pl (10 ^ (8 - pl)) n d lo hi := by
  obtain ⟨a1, a2, a3, a4, a5, a6, a7, a8⟩ := h
  rcases (by omega : pl = 1 ∨ pl = 2 ∨ pl = 3 ∨ pl = 4 ∨ pl = 5 ∨ pl = 6 ∨ pl = 7 ∨ pl = 8) with rfl | rfl | rfl | rfl | rfl | rfl | rfl | rfl
  · exact a1
  · exact a2
  · exact a3
  · exact a4
  · exact a5
  · exact a6
  · exact a7
  · exact a8
def valK (u : Nat) (K : Nat → Nat → Bool) : Bool := fz (Nat.gcd u 1000000) fun g => fz (Nat.div u g) fun n => fz (Nat.div 1000000 g) fun d => cel8 n d K
def Cel (pl u f c : Nat) : Prop := FindR pl (nrmBd pl (u : Int) 1000000) (f : Int) (c : Int) ∧ FindR pl (nrmBd pl (-(u : Int)) 1000000) (tenI pl - c) (tenI pl - f) ∧ 10 ^ pl ≤ 2 * f ∧ c ≤ 10 ^ pl
theorem red_negs {N D : Int} (hD : 0 < D) : redN (-N) D = -redN N D ∧ redD (-N) D = redD N D := by
  have h := red_uniq (a := redN (-N) D) (b := redD (-N) D) (c := -redN N D) (d := redD N D) (rq_pos hD) (rq_pos hD) (rq_gcd hD) (by rw [Int.neg_gcd]; exact rq_gcd hD) ?_
  · exact h
  · have h1 := rq_cross (n := -N) hD
    have h2 := rq_cross (n := N) hD
    have h3 : redN (-N) D * redD N D * D = -redN N D * redD (-N) D * D := by
      rw [show redN (-N) D * redD N D * D = redN (-N) D * D * redD N D by grind, h1, show -redN N D * redD (-N) D * D = -(redN N D * D) * redD (-N) D by grind, h2]
      grind
    exact Int.eq_of_mul_eq_mul_right (by omega) h3
theorem redn_nat {u d : Nat} (hd : 0 < d) : redN (u : Int) (d : Int) = ((u / Nat.gcd u d : Nat) : Int) ∧ (redD (u : Int) (d : Int)).toNat = d / Nat.gcd u d := by
  unfold redN redD
  rw [if_neg (by omega), if_neg (by omega), show Int.gcd (u : Int) (d : Int) = Nat.gcd u d from rfl]
  constructor
  · rw [Int.natCast_ediv]
  · rw [← Int.natCast_ediv]; rfl
theorem posR_cel {pl u d f c : Nat} (hd : 0 < d) (h : PosR pl (u / Nat.gcd u d) (d / Nat.gcd u d) f c) : FindR pl (nrmBd pl (u : Int) (d : Int)) (f : Int) (c : Int) ∧ FindR pl (nrmBd pl (-(u : Int)) (d : Int)) (tenI pl - c) (tenI pl - f) := by
  obtain ⟨_, h1, h2⟩ := h
  obtain ⟨e1, e2⟩ := redn_nat (u := u) hd
  obtain ⟨e3, e4⟩ := red_negs (N := (u : Int)) (D := (d : Int)) (by omega)
  have x1 : nrmBd pl (u : Int) (d : Int) = nrB pl ((u / Nat.gcd u d : Nat) : Int) (d / Nat.gcd u d) := funext fun k => by unfold nrmBd nrB; rw [e1, e2]
  have x2 : nrmBd pl (-(u : Int)) (d : Int) = nrB pl (-((u / Nat.gcd u d : Nat) : Int)) (d / Nat.gcd u d) := funext fun k => by unfold nrmBd nrB; rw [e3, e4, e1, e2]
  rw [x1, x2]; exact ⟨h1, h2⟩
theorem valK_ok {u : Nat} {K : Nat → Nat → Bool} (hu : 0 < u) (h : valK u K = true) : ∃ lo hi, (∀ pl, 1 ≤ pl → pl ≤ 8 → ∃ f c, Cel pl u f c ∧ f * 10 ^ (8 - pl) ≤ lo ∧ hi ≤ c * 10 ^ (8 - pl)) ∧ K lo hi = true := by
  unfold valK at h
  rw [fz_eq, fz_eq, fz_eq] at h
  have hg : 0 < Nat.gcd u 1000000 := Nat.gcd_pos_of_pos_left _ hu
  have hn : 0 < u / Nat.gcd u 1000000 := Nat.div_pos (Nat.le_of_dvd hu (Nat.gcd_dvd_left _ _)) hg
  have hd : 0 < 1000000 / Nat.gcd u 1000000 := Nat.div_pos (Nat.le_of_dvd (by decide) (Nat.gcd_dvd_right _ _)) hg
  obtain ⟨lo, hi, ha, hk⟩ := cel8_ok hn hd h
  refine ⟨lo, hi, fun pl h1 h2 => ?_, hk⟩
  obtain ⟨f, c, a, b, e, g, k⟩ := ha.at h1 h2
  obtain ⟨r1, r2⟩ := posR_cel (by decide) a
  exact ⟨f, c, ⟨r1, r2, b, e⟩, g, k⟩
def pairK (S K : Nat) : Bool := fz (Nat.mul K 50000) fun a => fz (Nat.div a S) fun dn => fz (Nat.div (Nat.add a (Nat.pred S)) S) fun up => cond (Nat.beq dn up) (valK dn fun lo hi => Nat.ble lo hi) (valK dn fun lo _ => valK up fun _ hi => Nat.ble lo hi)
def PairR (dn up : Nat) : Prop := ∃ lo hi, lo ≤ hi ∧ ∀ pl, 1 ≤ pl → pl ≤ 8 → ∃ f c f' c', Cel pl dn f c' ∧ Cel pl up f' c ∧ f * 10 ^ (8 - pl) ≤ lo ∧ hi ≤ c * 10 ^ (8 - pl)
theorem pairK_aux {dn up : Nat} (p1 : 0 < dn) (p2 : 0 < up) (h : cond (Nat.beq dn up) (valK dn fun lo hi => Nat.ble lo hi) (valK dn fun lo _ => valK up fun _ hi => Nat.ble lo hi) = true) : PairR dn up := by
  rcases cond_t h with ⟨h1, hk⟩ | ⟨_, hk⟩
  · have h1 := Nat.eq_of_beq_eq_true h1
    subst h1
    obtain ⟨lo, hi, ha, hb⟩ := valK_ok p1 hk
    refine ⟨lo, hi, Nat.le_of_ble_eq_true hb, fun pl h1 h2 => ?_⟩
    obtain ⟨f, c, a, b, e⟩ := ha pl h1 h2
    exact ⟨f, c, f, c, a, a, b, e⟩
  · obtain ⟨lo, _, ha, hk⟩ := valK_ok p1 hk
    obtain ⟨_, hi, hb, hk⟩ := valK_ok p2 hk
    refine ⟨lo, hi, Nat.le_of_ble_eq_true hk, fun pl h1 h2 => ?_⟩
    obtain ⟨f, c', a, b, _⟩ := ha pl h1 h2
    obtain ⟨f', c, a', _, b'⟩ := hb pl h1 h2
    exact ⟨f, c, f', c', a, a', b, b'⟩
theorem pairK_ok {S K : Nat} (hS : 0 < S) (hK : S ≤ K * 50000) (h : pairK S K = true) : PairR (K * 50000 / S) ((K * 50000 + (S - 1)) / S) := by
  unfold pairK at h
  rw [fz_eq, fz_eq, fz_eq] at h
  exact pairK_aux (Nat.div_pos hK hS) (Nat.div_pos (Nat.le_trans hK (Nat.le_add_right _ _)) hS) h
def anyN (ck : Nat → Bool) (n : Nat) : Bool := Nat.rec (motive := fun _ => Bool) false (fun m ih => cond (ck (Nat.succ m)) true ih) n
theorem anyN_ok {ck : Nat → Bool} : ∀ {n i : Nat}, 1 ≤ i → i ≤ n → ck i = true → anyN ck n = true
  | 0, i, h1, h2, _ => by omega
  | n + 1, i, h1, h2, h => by
    change cond (ck (n + 1)) true (anyN ck n) = true
    by_cases e : i = n + 1
    · subst e; rw [h]; rfl
    · cases ck (n + 1)
      · exact anyN_ok h1 (by omega) h
      · rfl
def prodB (K : Nat) : Bool := anyN (fun W => and (Nat.beq (Nat.mod K W) 0) (Nat.ble (Nat.div K W) 50)) 40
theorem prodB_ok {W D : Nat} (h1 : 1 ≤ W) (h2 : W ≤ 40) (h3 : D ≤ 50) : prodB (W * D) = true := by
  refine anyN_ok h1 h2 ?_
  rw [show Nat.mod (W * D) W = 0 from Nat.mul_mod_right _ _, show Nat.div (W * D) W = D from Nat.mul_div_cancel_left _ (by omega), Nat.ble_eq_true_of_le h3]; rfl
def rowK (pk : Nat → Nat → Bool) (S lo n : Nat) : Bool := allN (fun i => fz (Nat.add lo i) fun K => cond (Nat.ble (Nat.mul 160 S) K) true (cond (Nat.beq (Nat.gcd K S) 1) (cond (prodB K) (pk S K) true) true)) n
theorem rowK_ok {pk : Nat → Nat → Bool} {S lo n K : Nat} (h : rowK pk S lo n = true) (h1 : lo < K) (h2 : K ≤ lo + n) (h3 : K < 160 * S) (h4 : Nat.gcd K S = 1) (h5 : prodB K = true) : pk S K = true := by
  have h6 := allN_ok h (K - lo) (by omega) (by omega)
  rw [fz_eq, show Nat.add lo (K - lo) = K by show lo + (K - lo) = K; omega] at h6
  rcases cond_t h6 with ⟨h7, _⟩ | ⟨_, h6⟩
  · have := Nat.le_of_ble_eq_true h7
    exact absurd (show 160 * S ≤ K from this) (by omega)
  · rw [h4] at h6
    rcases cond_t h6 with ⟨_, h6⟩ | ⟨h7, _⟩
    · rw [h5] at h6; exact h6
    · cases h7
def Rng (pk : Nat → Nat → Bool) (S m : Nat) : Prop := ∀ K, 0 < K → K ≤ m → K < 160 * S → Nat.gcd K S = 1 → prodB K = true → pk S K = true
theorem Rng.zero {pk : Nat → Nat → Bool} {S : Nat} : Rng pk S 0 := fun K h1 h2 => by omega
theorem Rng.next {pk : Nat → Nat → Bool} {S m n : Nat} (h : Rng pk S m) (h2 : rowK pk S m n = true) : Rng pk S (m + n) := fun K a b c d e => by
  by_cases h3 : K ≤ m
  · exact h K a h3 c d e
  · exact rowK_ok h2 (by omega) b c d e
end Go.Proofs.YtonigegpknhdnaaGreatDoor
namespace Go.Proofs.YtonigegpknhdnaaGreatDoor
open Go Go.Eng Go.RowKit
attribute [local irreducible] wpListIn Code.wpIn Oper.wpIn Exit.then Exit.inBlock Exit.noGoto
set_option maxHeartbeats 40000000
end Go.Proofs.YtonigegpknhdnaaGreatDoor
namespace Go.Eng
open Go Go.RowKit
def nthO : List (Option (Nat × Value)) → Nat → Option (Option (Nat × Value))
  | [], _ => none
  | x :: _, 0 => some x
  | _ :: l, i + 1 => nthO l i
def VL (L : List (Option (Nat × Value))) (ls : Nat → Bool) (e : Nat → Value) : Prop := ∀ i d v, nthO L i = some (some (d, v)) → ls i = true → e d = v
def eqO : Option Nat → Nat → Bool
  | none, _ => false
  | some a, b => Nat.beq a b
def ndO : List Oper → Bool
  | [] => true
  | o :: l => (match o.dst with | none => true | some d => l.all fun p => !eqO p.dst d) && ndO l
def mtB : List Oper → List (Option (Nat × Value)) → Bool
  | _, [] => true
  | [], _ :: _ => false
  | o :: os, x :: xs => (match x with | none => true | some y => eqO o.dst y.1) && mtB os xs
def inD (D : List Nat) (l : List Oper) : Bool := l.all fun o => match o.dst with | none => true | some d => inB D d
theorem eqO_iff {o : Option Nat} {d : Nat} : eqO o d = true ↔ o = some d := by
  cases o with
  | none => simp [eqO]
  | some a => simp only [eqO, Option.some.injEq]; exact ⟨Nat.eq_of_beq_eq_true, fun h => by subst h; simp⟩
theorem ndO_get : ∀ {l : List Oper} {i j d : Nat} {o p : Oper}, ndO l = true → l[i]? = some o → l[j]? = some p → o.dst = some d → p.dst = some d → i = j
  | [], i, _, _, _, _, _, h, _, _, _ => by simp at h
  | q :: l, 0, 0, _, _, _, _, _, _, _, _ => rfl
  | q :: l, 0, j + 1, d, o, p, h, ho, hp, hd, he => by
    simp at ho; subst ho
    simp only [ndO, hd, Bool.and_eq_true] at h
    have := List.all_eq_true.1 h.1 p (List.mem_of_getElem? (by simpa using hp))
    rw [eqO_iff.2 he] at this; cases this
  | q :: l, i + 1, 0, d, o, p, h, ho, hp, hd, he => by
    simp at hp; subst hp
    simp only [ndO, he, Bool.and_eq_true] at h
    have := List.all_eq_true.1 h.1 o (List.mem_of_getElem? (by simpa using ho))
    rw [eqO_iff.2 hd] at this; cases this
  | q :: l, i + 1, j + 1, d, o, p, h, ho, hp, hd, he => by
    simp only [ndO, Bool.and_eq_true] at h
    have e := ndO_get h.2 (by simpa using ho) (by simpa using hp) hd he
    omega
theorem mtB_get : ∀ {l : List Oper} {L : List (Option (Nat × Value))} {i d : Nat} {v : Value}, mtB l L = true → nthO L i = some (some (d, v)) → ∃ o, l[i]? = some o ∧ o.dst = some d
  | _, [], i, _, _, _, h => by cases i <;> cases h
  | [], _ :: _, _, _, _, h, _ => by cases h
  | o :: os, x :: xs, 0, d, v, h, hx => by
    cases hx
    simp only [mtB, Bool.and_eq_true] at h
    exact ⟨o, rfl, eqO_iff.1 h.1⟩
  | o :: os, x :: xs, i + 1, d, v, h, hx => by
    simp only [mtB, Bool.and_eq_true] at h
    obtain ⟨p, h1, h2⟩ := mtB_get h.2 (show nthO xs i = _ from hx)
    exact ⟨p, by simpa using h1, h2⟩
theorem Blk.cst {w : World} {b : Nat} {t : TypeId} {ds cs : Array Value} (h : Blk w b t ds) (e : ds = cs) : Blk w b t cs := e ▸ h
section draws
variable {P : Program} {r : Option Nat} {n N : Nat} {e0 : Nat → Value} {ds : List Deferred} {w0 : World} {Q : Exit → Act → World → Prop} {M : Nat}
def EndV (N : Nat) (ds : List Deferred) (X : (Nat → Bool) → (Nat → Value) → World → Prop) (L : List (Option (Nat × Value))) (ls : Nat → Bool) (e : Nat → Value) (i : Nat) (dst : Option Nat) : Exit → Act → World → Prop :=
  fun x a' w' => x = .normal ∧ ∃ v, a' = (act N e ds).put dst v ∧ (∀ d u, nthO L i = some (some (d, u)) → v = u) ∧ X (setB ls i) (updO e dst v) w'
def DvS (r : Option Nat) (n : Nat) (P : Program) (N : Nat) (ds : List Deferred) (l : List Oper) (D : List Nat) (L : List (Option (Nat × Value))) (X : (Nat → Bool) → (Nat → Value) → World → Prop) (e0 : Nat → Value) : Nat → List Oper → Prop
  | _, [] => True
  | i, o :: os => (∀ (e : Nat → Value) (w : World) (ls : Nat → Bool), (∀ t, inB D t = false → e t = e0 t) → (∀ k d v, nthO L k = some (some (d, v)) → predAt l i k = true → e d = v) → X ls e w → (∀ j k, predAt l j k = true → ls j = true → ls k = true) → ls i = false → (∀ k, predAt l i k = true → ls k = true) →
      wpListIn (Fw r) n P l.toArray (EndV N ds X L ls e i o.dst) [o] (act N e ds) w) ∧ DvS r n P N ds l D L X e0 (i + 1) os
theorem dvS_get {l : List Oper} {D : List Nat} {L : List (Option (Nat × Value))} {X : (Nat → Bool) → (Nat → Value) → World → Prop} (hnd : ndO (l.take M) = true) (hmt : mtB (l.take M) L = true) (hD : inD D (l.take M) = true) :
    ∀ (os : List Oper) (i0 : Nat), (∀ k, os[k]? = (l.take M)[i0 + k]?) → DvS r n P N ds l D L X e0 i0 os →
    StepsS r n P N ds l (fun ls e w => (∀ t, inB D t = false → e t = e0 t) ∧ VL L ls e ∧ X ls e w) i0 os
  | [], _, _, _ => trivial
  | o :: os, i0, hk, h => by
    refine ⟨fun e w ls hJ hcl hni hpr => ?_, dvS_get hnd hmt hD os (i0 + 1) (fun k => by rw [show i0 + 1 + k = i0 + (k + 1) by omega, ← hk (k + 1)]; rfl) h.2⟩
    obtain ⟨hs, hv, hX⟩ := hJ
    have ho : (l.take M)[i0]? = some o := by have := hk 0; simpa using this.symm
    have hstep := h.1 e w ls hs (fun k d v hl hp => hv k d v hl (hpr k hp)) hX hcl hni hpr
    refine list_mono1 (K1 := fun a' w' => ∃ v, a' = (act N e ds).put o.dst v ∧ (∀ d u, nthO L i0 = some (some (d, u)) → v = u) ∧ X (setB ls i0) (updO e o.dst v) w') hstep (fun a' w' hE => ?_)
    obtain ⟨v, ha, hvv, hX'⟩ := hE
    refine ⟨v, ha, ?_, ?_, hX'⟩
    · cases hd : o.dst with
      | none => exact hs
      | some d =>
        refine same_upd ?_ hs
        have := List.all_eq_true.1 hD o (List.mem_of_getElem? ho)
        rw [hd] at this; exact this
    · intro j d' v' hj hl
      by_cases hji : j = i0
      · subst hji
        obtain ⟨p, hp1, hp2⟩ := mtB_get hmt hj
        rw [ho] at hp1
        cases hp1
        rw [hp2]
        show upd e d' v d' = v'
        rw [upd_eq]; exact hvv d' v' hj
      · have hl' : ls j = true := by
          have hb : Nat.beq j i0 = false := by
            cases hb : Nat.beq j i0 with
            | false => rfl
            | true => exact absurd (Nat.eq_of_beq_eq_true hb) hji
          unfold setB at hl; rw [hb] at hl; exact hl
        have he := hv j d' v' hj hl'
        cases hd : o.dst with
        | none => exact he
        | some d =>
          show upd e d v d' = v'
          obtain ⟨p, hp1, hp2⟩ := mtB_get hmt hj
          rw [upd_ne _ _ (fun hh : d' = d => hji (ndO_get hnd hp1 ho (by rw [hp2, hh]) hd))]
          exact he
theorem c_dv {id : Nat} {l : List Oper} (hm : P.follows .mixedOrders = true) (M : Nat) (D : List Nat) (L : List (Option (Nat × Value))) (X : (Nat → Bool) → (Nat → Value) → World → Prop) (h0 : X (fun _ => false) e0 w0.drew)
    (hwf : wfB l = true) (hshape : shapeB l M = true) (hchk : (ndO (l.take M) && (mtB (l.take M) L && inD D (l.take M))) = true) (hstep : DvS r n P N ds l D L X e0 0 (l.take M))
    (hfin : ∀ (e : Nat → Value) (w : World) (ls : Nat → Bool), (∀ j, Nat.blt j M = true → ls j = true) → (∀ t, inB D t = false → e t = e0 t) → (∀ k d v, nthO L k = some (some (d, v)) → Nat.blt k M = true → e d = v) → X ls e w → wpListIn (Fw r) n P l.toArray Q (l.drop M) (act N e ds) w) :
    (Code.region id l.toArray true).wpIn (Fw r) n P Q (act N e0 ds) w0 := by
  simp only [Bool.and_eq_true] at hchk
  refine c_st2 hm M (fun e0 ls e w => (∀ t, inB D t = false → e t = e0 t) ∧ VL L ls e ∧ X ls e w) ⟨fun _ _ => rfl, (fun _ _ _ _ h => by cases h), h0⟩ hwf hshape (dvS_get hchk.1 hchk.2.1 hchk.2.2 _ 0 (fun k => by rw [Nat.zero_add]) hstep) ?_
  intro e w ls hall hJ
  exact hfin e w ls hall hJ.1 (fun k d v hl hk => hJ.2.1 k d v hl (hall k hk)) hJ.2.2
def XE (w0 : World) (_ : Nat → Bool) (_ : Nat → Value) (w : World) : Prop := Ext w0 w
theorem dvE {L : List (Option (Nat × Value))} {ls : Nat → Bool} {e : Nat → Value} {i d : Nat} {v : Value} {w w' : World} (hl : nthO L i = some (some (d, v))) (hX : XE w0 ls e w) (k : Ext w w') : EndV N ds (XE w0) L ls e i (some d) .normal (act N (upd e d v) ds) w' :=
  ⟨rfl, v, (act_put ..).symm, (fun _ _ h => by rw [hl] at h; cases h; rfl), Ext.trans hX k⟩
def XA (w0 : World) (a s d ty : Nat) (z v : Array Value) (ls : Nat → Bool) (e : Nat → Value) (w : World) : Prop :=
  Ext w0 w ∧ (ls a = true → ∃ b, e d = .pointer (some ⟨b, 0, none⟩) ∧ w0.heap.size ≤ b ∧ Blk w b ty (match ls s with | true => v | false => z))
theorem XA.start {a s d ty : Nat} {z v : Array Value} : XA w0 a s d ty z v (fun _ => false) e0 w0.drew := ⟨Ext.drew w0, fun h => by cases h⟩
theorem setB_ne {ls : Nat → Bool} {i j : Nat} (h : Nat.beq j i = false) : setB ls i j = ls j := by unfold setB; rw [h]
theorem setB_eq {ls : Nat → Bool} {i : Nat} : setB ls i i = true := by unfold setB; simp
theorem upd_nb {e : Nat → Value} {d t : Nat} {v : Value} (h : Nat.beq t d = false) : upd e d v t = e t := upd_ne _ _ (fun hh => by subst hh; simp at h)
theorem dvA {L : List (Option (Nat × Value))} {ls : Nat → Bool} {e : Nat → Value} {i d a s t ty : Nat} {z u : Array Value} {v : Value} {w w' : World} (hl : nthO L i = some (some (d, v))) (hX : XA w0 a s t ty z u ls e w) (k : Ext w w') (h1 : Nat.beq a i = false := by rfl) (h2 : Nat.beq s i = false := by rfl) (h3 : Nat.beq t d = false := by rfl) :
    EndV N ds (XA w0 a s t ty z u) L ls e i (some d) .normal (act N (upd e d v) ds) w' := by
  refine ⟨rfl, v, (act_put ..).symm, (fun _ _ h => by rw [hl] at h; cases h; rfl), Ext.trans hX.1 k, fun h => ?_⟩
  rw [setB_ne h1] at h
  obtain ⟨b, e1, e2, e3⟩ := hX.2 h
  refine ⟨b, ?_, e2, ?_⟩
  · show upd e d v t = _
    rw [upd_nb h3]; exact e1
  · rw [setB_ne h2]; exact Blk.ext k e3
theorem dvAa {L : List (Option (Nat × Value))} {ls : Nat → Bool} {e : Nat → Value} {a s t ty : Nat} {z u : Array Value} {w w' : World} (hl : nthO L a = some none) (hX : XA w0 a s t ty z u ls e w) (hs : ls s = false) (k : Ext w w') (hb : Blk w' w.heap.size ty z) (h2 : Nat.beq s a = false := by rfl) :
    EndV N ds (XA w0 a s t ty z u) L ls e a (some t) .normal (act N (upd e t (.pointer (some ⟨w.heap.size, 0, none⟩))) ds) w' := by
  refine ⟨rfl, _, (act_put ..).symm, (fun _ _ h => by rw [hl] at h; cases h), Ext.trans hX.1 k, fun _ => ⟨w.heap.size, ?_, Below.size hX.1, ?_⟩⟩
  · show upd e t _ t = _
    rw [upd_eq]
  · rw [setB_ne h2, hs]; exact hb
theorem dvAs {L : List (Option (Nat × Value))} {ls : Nat → Bool} {e : Nat → Value} {a s t ty b : Nat} {z u : Array Value} {w w' : World} (hl : nthO L s = none ∨ nthO L s = some none) (hX : XA w0 a s t ty z u ls e w) (he : e t = .pointer (some ⟨b, 0, none⟩)) (hlo : w0.heap.size ≤ b) (k : Put w w' b) (hb : Blk w' b ty u) (h2 : Nat.beq a s = false := by rfl) :
    EndV N ds (XA w0 a s t ty z u) L ls e s none .normal (act N e ds) w' := by
  refine ⟨rfl, undef, rfl, (fun _ _ h => absurd h (by rcases hl with hl | hl <;> rw [hl] <;> simp)), Put.low k hX.1 hlo, fun _ => ⟨b, he, hlo, ?_⟩⟩
  rw [setB_eq]; exact hb
theorem dvAn {L : List (Option (Nat × Value))} {ls : Nat → Bool} {e : Nat → Value} {a s t ty : Nat} {z : Array Value} {w w' : World} (hl : nthO L a = some none) (hX : XA w0 a s t ty z z ls e w) (k : Ext w w') (hb : Blk w' w.heap.size ty z) :
    EndV N ds (XA w0 a s t ty z z) L ls e a (some t) .normal (act N (upd e t (.pointer (some ⟨w.heap.size, 0, none⟩))) ds) w' := by
  refine ⟨rfl, _, (act_put ..).symm, (fun _ _ h => by rw [hl] at h; cases h), Ext.trans hX.1 k, fun _ => ⟨w.heap.size, ?_, Below.size hX.1, ?_⟩⟩
  · show upd e t _ t = _
    rw [upd_eq]
  · cases setB ls a s <;> exact hb
theorem XA.opn {a s d ty : Nat} {z v : Array Value} {ls : Nat → Bool} {e : Nat → Value} {w : World} (h : XA w0 a s d ty z v ls e w) (ha : ls a = true) (hs : ls s = false) : ∃ b, e d = .pointer (some ⟨b, 0, none⟩) ∧ w0.heap.size ≤ b ∧ Blk w b ty z := by
  obtain ⟨b, h1, h2, h3⟩ := h.2 ha
  rw [hs] at h3
  exact ⟨b, h1, h2, h3⟩
theorem XA.fin {a s d ty : Nat} {z v : Array Value} {ls : Nat → Bool} {e : Nat → Value} {w : World} (h : XA w0 a s d ty z v ls e w) (ha : ls a = true) (hs : ls s = true ∨ z = v) : ∃ b, e d = .pointer (some ⟨b, 0, none⟩) ∧ w0.heap.size ≤ b ∧ Blk w b ty v := by
  obtain ⟨b, h1, h2, h3⟩ := h.2 ha
  rcases hs with hs | hs
  · rw [hs] at h3; exact ⟨b, h1, h2, h3⟩
  · subst hs; refine ⟨b, h1, h2, ?_⟩; cases hh : ls s <;> rw [hh] at h3 <;> exact h3
def XW (w0 : World) (b s ty : Nat) (z v : Array Value) (ls : Nat → Bool) (_ : Nat → Value) (w : World) : Prop :=
  w0.grownBy w (some b) ∧ Blk w b ty (match ls s with | true => v | false => z)
theorem XW.start {b s ty : Nat} {z v : Array Value} (h : Blk w0 b ty z) : XW w0 b s ty z v (fun _ => false) e0 w0.drew := ⟨gb_ext (World.grownBy.refl w0 _) (Ext.drew w0), Blk.ext (Ext.drew w0) h⟩
theorem dvW {L : List (Option (Nat × Value))} {ls : Nat → Bool} {e : Nat → Value} {i d b s ty : Nat} {z u : Array Value} {v : Value} {w w' : World} (hl : nthO L i = some (some (d, v))) (hX : XW w0 b s ty z u ls e w) (k : Ext w w') (h2 : Nat.beq s i = false := by rfl) :
    EndV N ds (XW w0 b s ty z u) L ls e i (some d) .normal (act N (upd e d v) ds) w' := by
  refine ⟨rfl, v, (act_put ..).symm, (fun _ _ h => by rw [hl] at h; cases h; rfl), gb_ext hX.1 k, ?_⟩
  rw [setB_ne h2]; exact Blk.ext k hX.2
theorem XW.opn {b s ty : Nat} {z v : Array Value} {ls : Nat → Bool} {e : Nat → Value} {w : World} (h : XW w0 b s ty z v ls e w) (hs : ls s = false) : Blk w b ty z := by
  have h3 := h.2
  rw [hs] at h3; exact h3
theorem XW.fin {b s ty : Nat} {z v : Array Value} {ls : Nat → Bool} {e : Nat → Value} {w : World} (h : XW w0 b s ty z v ls e w) (hs : ls s = true) : Blk w b ty v := by
  have h3 := h.2
  rw [hs] at h3; exact h3
theorem dvWs {L : List (Option (Nat × Value))} {ls : Nat → Bool} {e : Nat → Value} {s ty b : Nat} {z u : Array Value} {w w' : World} (hl : nthO L s = none ∨ nthO L s = some none) (hX : XW w0 b s ty z u ls e w) (k : Put w w' b) (hb : Blk w' b ty u) :
    EndV N ds (XW w0 b s ty z u) L ls e s none .normal (act N e ds) w' := by
  refine ⟨rfl, undef, rfl, (fun _ _ h => absurd h (by rcases hl with hl | hl <;> rw [hl] <;> simp)), gb_put hX.1 k, ?_⟩
  rw [setB_eq]; exact hb
def XG (Rel : World → Prop) (_ : Nat → Bool) (_ : Nat → Value) (w : World) : Prop := Rel w
theorem dvG {Rel : World → Prop} {L : List (Option (Nat × Value))} {ls : Nat → Bool} {e : Nat → Value} {i d : Nat} {v : Value} {w' : World} (hl : nthO L i = some (some (d, v))) (h : Rel w') : EndV N ds (XG Rel) L ls e i (some d) .normal (act N (upd e d v) ds) w' :=
  ⟨rfl, v, (act_put ..).symm, (fun _ _ h => by rw [hl] at h; cases h; rfl), h⟩
def XH (Rel : World → Prop) (n0 a d ty : Nat) (z : Array Value) (ls : Nat → Bool) (e : Nat → Value) (w : World) : Prop :=
  Rel w ∧ n0 ≤ w.heap.size ∧ (ls a = true → ∃ b, e d = .pointer (some ⟨b, 0, none⟩) ∧ n0 ≤ b ∧ Blk w b ty z)
theorem XH.start {Rel : World → Prop} {a d ty : Nat} {z : Array Value} (h : Rel w0.drew) : XH Rel w0.heap.size a d ty z (fun _ => false) e0 w0.drew := ⟨h, Below.size (Ext.drew w0), fun h => by cases h⟩
theorem dvH {Rel : World → Prop} {L : List (Option (Nat × Value))} {ls : Nat → Bool} {e : Nat → Value} {n0 i d a t ty : Nat} {z : Array Value} {v : Value} {w w' : World} {row : Option Nat} (hl : nthO L i = some (some (d, v))) (hX : XH Rel n0 a t ty z ls e w) (h : Rel w') (k : w.grownBy w' row) (hr : ∀ g, row = some g → g < n0) (h1 : Nat.beq a i = false := by rfl) (h3 : Nat.beq t d = false := by rfl) :
    EndV N ds (XH Rel n0 a t ty z) L ls e i (some d) .normal (act N (upd e d v) ds) w' := by
  refine ⟨rfl, v, (act_put ..).symm, (fun _ _ h => by rw [hl] at h; cases h; rfl), h, Nat.le_trans hX.2.1 k.size, fun ha => ?_⟩
  rw [setB_ne h1] at ha
  obtain ⟨b, e1, e2, e3⟩ := hX.2.2 ha
  refine ⟨b, ?_, e2, Blk.gr k (fun he => by have := hr b he.symm; omega) e3⟩
  show upd e d v t = _
  rw [upd_nb h3]; exact e1
theorem dvHx {Rel : World → Prop} {L : List (Option (Nat × Value))} {ls : Nat → Bool} {e : Nat → Value} {n0 i d a t ty : Nat} {z : Array Value} {v : Value} {w w' : World} (hl : nthO L i = some (some (d, v))) (hX : XH Rel n0 a t ty z ls e w) (h : Rel w') (k : Ext w w') (h1 : Nat.beq a i = false := by rfl) (h3 : Nat.beq t d = false := by rfl) :
    EndV N ds (XH Rel n0 a t ty z) L ls e i (some d) .normal (act N (upd e d v) ds) w' := dvH hl hX h (gb_ext (World.grownBy.refl w none) k) (fun g h => by cases h) h1 h3
theorem dvHa {Rel : World → Prop} {L : List (Option (Nat × Value))} {ls : Nat → Bool} {e : Nat → Value} {n0 a t ty : Nat} {z : Array Value} {w w' : World} (hl : nthO L a = some none) (hX : XH Rel n0 a t ty z ls e w) (h : Rel w') (k : Ext w w') (hb : Blk w' w.heap.size ty z) :
    EndV N ds (XH Rel n0 a t ty z) L ls e a (some t) .normal (act N (upd e t (.pointer (some ⟨w.heap.size, 0, none⟩))) ds) w' := by
  refine ⟨rfl, _, (act_put ..).symm, (fun _ _ h => by rw [hl] at h; cases h), h, Nat.le_trans hX.2.1 k.size, fun _ => ⟨w.heap.size, ?_, hX.2.1, hb⟩⟩
  show upd e t _ t = _
  rw [upd_eq]
end draws
end Go.Eng
namespace Go.Proofs.YtonigegpknhdnaaGreatDoor
set_option maxRecDepth 100000
open Go Go.Eng Go.RowKit
attribute [local irreducible] wpListIn Code.wpIn Oper.wpIn Exit.then Exit.inBlock Exit.noGoto
set_option maxHeartbeats 40000000
def mnR (q : Bool) (x y : R) : R := cond q y x
theorem mn_t {q : Bool} {x y : R} (h : q = true) : mnR q x y = y := by subst h; rfl
theorem mn_f {q : Bool} {x y : R} (h : q = false) : mnR q x y = x := by subst h; rfl
def mnA (q : Bool) (x y : R) (i : Nat) : R := if i = 1 then x else mnR q x y
theorem mnA_2 {q : Bool} {x y : R} : mnA q x y 2 = mnR q x y := rfl
section
variable {a b c d : Int} {w : World}
theorem qCmpX (h1 : Q9 a b) (h2 : Q9 c d) (ht : Tb w) : Calls Tryz.prog 15 #[.agg #[S (qR a b).1, S (qR a b).2], .agg #[S (qR c d).1, S (qR c d).2]] w (Ret w fun v _ => v = .int .i64 (cmpI (a * d) (c * b))) := qCmpL rfl rfl h1 h2 ht
theorem qAddX (h1 : Q9 a b) (h2 : Q9 c d) (ht : Tb w) : Calls Tryz.prog 13 #[.agg #[S (qR a b).1, S (qR a b).2], .agg #[S (qR c d).1, S (qR c d).2]] w (Ret w fun v _ => v = Qv (a * d + c * b) (b * d)) := qAddL rfl rfl h1 h2 ht
theorem qSubX (h1 : Q9 a b) (h2 : Q9 c d) (ht : Tb w) : Calls Tryz.prog 16 #[.agg #[S (qR a b).1, S (qR a b).2], .agg #[S (qR c d).1, S (qR c d).2]] w (Ret w fun v _ => v = Qv (a * d - c * b) (b * d)) := qSubL rfl rfl h1 h2 ht
theorem qDivX (h1 : Q9 a b) (h2 : Q9 c d) (hc : 0 < c) (ht : Tb w) : Calls Tryz.prog 42 #[.agg #[S (qR a b).1, S (qR a b).2], .agg #[S (qR c d).1, S (qR c d).2]] w (Ret w fun v _ => v = Qv (a * d) (b * c)) := qDivL rfl rfl h1 h2 hc ht
end
theorem rmust_ok {l m : List UInt8} {w : World} :
    Calls Tryz.prog 152 #[.agg #[S (l), S (m)], .int .i64 (0)] w (Ret w fun v w' => v = .agg #[S (l), S (m)]) := by
 refine f_in Tryz.func152 rfl ?_;refine go ?_;refine bx (fun fh fk co => ?_);have fe := fk.2;refine al inf36 (fun fp fj fm => ?_);have ⟨co,fe⟩:=be1 fj.2 co fe;refine go ?_;refine SA fm (fun fq fg fo => ?_);have ⟨co,fe,fw⟩:=pl1 fg co fe;refine go ?_;refine f_out (v := .agg #[S (l), S (m)]) (res1  rfl ?_) fe rfl;refine res_cellA (t := 4) (cs := [S (l), S (m)]) (b := fh.heap.size) (o := 0) U36 rfl sz36 ?_ ?_;exact rfl;exact Blk.cells fo (i := 0) rfl
theorem imust_ok {x : R × R} {w : World} :
    Calls Tryz.prog 104 #[.agg #[S (x.1.1), S (x.1.2), S (x.2.1), S (x.2.2)], .int .i64 (0)] w (Ret w fun v w' => v = .agg #[S (x.1.1), S (x.1.2), S (x.2.1), S (x.2.2)]) := by
 refine f_in Tryz.func104 rfl ?_;refine go ?_;refine bx (fun fh fk co => ?_);have fe := fk.2;refine al inf1032 (fun fp fj fm => ?_);have ⟨co,fe⟩:=be1 fj.2 co fe;refine go ?_;refine l_op (k_loadA (cs := [S (x.1.1), S (x.1.2), S (x.2.1), S (x.2.2)]) (b := w.heap.size) (o := 0) U1032 rfl sz1032 rfl (Blk.cells co (i := 0) rfl) ?_);refine SA fm (fun fq fg fo => ?_);have ⟨co,fe,fw⟩:=pl1 fg co fe;refine go ?_;refine f_out (v := .agg #[S (x.1.1), S (x.1.2), S (x.2.1), S (x.2.2)]) (res1  rfl ?_) fe rfl;refine res_cellA (t := 4) (cs := [S (x.1.1), S (x.1.2), S (x.2.1), S (x.2.2)]) (b := fh.heap.size) (o := 0) U1032 rfl sz1032 ?_ ?_;exact rfl;exact Blk.cells fo (i := 0) rfl
theorem whole_ok {n : Int} {w : World} (hn : In64 n) (ht : Tb w) :
    Calls Tryz.prog 107 #[.int .i64 (n)] w (Ret w fun v w' => v = .agg #[S ((qR n 1).1), S ((qR n 1).2)]) := by
 refine f_in Tryz.func107 rfl ?_;refine go ?_;refine al inf36 (fun fo fk fe => ?_);have co := fk.2;refine go ?_;refine clb en1025 (hc := rOfZ_ok hn (by unfold In64; decide) dc (ht.ext co)) (hk := ?_);rintro fp fq fg rfl;have ⟨fe,co⟩:=be1 fg.2 fe co;refine go ?_;refine cl en2152 (rmust_ok) ?_;rintro fw f6 fh rfl;have ⟨fe,co⟩:=be1 fh.2 fe co;refine SA fe (fun f7 fj fm => ?_);have co := plw fj co;have gc := psz fj;refine go ?_;refine f_out (v := .agg #[S ((qR n 1).1), S ((qR n 1).2)]) (res1  rfl ?_) co rfl;refine res_cellA (t := 2) (cs := [S ((qR n 1).1), S ((qR n 1).2)]) (b := w.heap.size) (o := 0) U36 rfl sz36 ?_ ?_;exact rfl;exact Blk.cells fm (i := 0) rfl
theorem isLess_ok {a b c d : Int} {w : World} (h1 : Q9 a b) (h2 : Q9 c d) (ht : Tb w) :
    Calls Tryz.prog 101 #[.agg #[S ((qR a b).1), S ((qR a b).2)], .agg #[S ((qR c d).1), S ((qR c d).2)]] w (Ret w fun v w' => v = .bool (decide (cmpI (a * d) (c * b) < 0))) := by
 refine f_in Tryz.func101 rfl ?_;refine go ?_;refine bx (fun fk fm fe => ?_);have co := fm.2;refine bx (fun fo fj fg => ?_);have ⟨fe,co⟩:=be1 fj.2 fe co;refine go ?_;refine cl en49 (qCmpX h1 h2 (ht.ext co)) ?_;rintro fp fq fh rfl;have co := xt co fh.2;refine go ?_;exact f_ret1 (t := 4) (v := .bool (decide ((cmpI (a * d) (c * b)) < 0))) rfl co rfl rfl
theorem minFunc_ok {A : Option Addr} {cp lo : Nat} {x y : R} {k : Int} {q : Bool} {w : World} (hr : Rw w lo A (cellsR [x, y])) (hq : decide (k < 0) = q) (hc : ∀ W, Ext w W → Calls Tryz.prog 15 #[.agg #[S y.1, S y.2], .agg #[S x.1, S x.2]] W (Ret W fun v _ => v = .int .i64 k)) :
    Calls Tryz.prog 87 #[.slice (A) (2) (cp), .func (.func 15) #[] #[]] w (Ret w fun v w' => v = .agg #[S (mnR q x y).1, S (mnR q x y).2]) := by
 obtain ⟨bk0, o0, hA0, hcs0⟩ := rw_pair hr (i := 0) (by simp);obtain ⟨bk1, o1, hA1, hcs1⟩ := rw_pair hr (i := 1) (by simp);refine f_in Tryz.func87 rfl ?_;refine go ?_;refine al inf36 (fun fh gq fe => ?_);have fj := gq.2;refine go ?_;refine l_op (k_indexAddr (i := 0) (oo := o0 + 0 * 2) U23 sz36 rfl hA0 rfl dc rfl ?_);refine l_op (k_loadA (cs := [S (x.1), S (x.2)]) (b := bk0) (o := o0 + 0 * 2) U36 rfl sz36 rfl (fun j u hj => Ext.cell fj (hcs0 j u hj)) ?_);refine al inf36 (fun gz gc gu => ?_);have ⟨fe,fj⟩:=be1 gc.2 fe fj;refine SA gu (fun gv fo co => ?_);have ⟨fe,fj,g6⟩:=pl1 fo fe fj;refine go ?_;refine c_lp [(6, 6), (14, 31)] (fun kk e W => ∃ i : Nat, (2 - i = kk) ∧ (e 6 = .int .i64 i) ∧ (1 ≤ i ∧ i ≤ 2) ∧ (gv.heap.size ≤ W.heap.size) ∧ (Ext w W) ∧ (Blk W (w.heap.size) 25 #[S ([]), S ([])]) ∧ (Blk W (fh.heap.size) 25 #[S ((mnA q x y i).1), S ((mnA q x y i).2)])) (2 - (1)) ⟨1, rfl, rfl, dc, (Nat.le_refl _), fj, fe, co⟩ ?_;rintro g7 g8 gh ⟨i, rfl, fk, hi, g9, fg, fe, co⟩;have ia := bz fg;by_cases h0 : i < 2;obtain rfl : i = 1 := by omega
 have co : Blk gh (fh.heap.size) 25 #[S (x.1), S (x.2)] := co;refine go ?_;refine c_an 6 ?_;refine sf ?_;refine sf_ap (fun ip iq gm ir => by refine l_op (k_indexAddr (i := 1) (oo := o1 + 1 * 2) U23 sz36 rfl hA1 rfl dc rfl ?_);refine go ?_;exact finp) ?_;refine sf_ap (fun iu iv fp iw => by refine l_op (k_loadA (cs := [S (y.1), S (y.2)]) (b := bk1) (o := o1 + 1 * 2) U36 rfl sz36 rfl (fun j u hj => Ext.cell (xt fg fp) (hcs1 j u hj)) ?_);refine go ?_;exact finp) ?_;refine sf ?_;intro ja jb fq jc;have ⟨fe,co,fg⟩:=be2 fq.2 fe co fg;refine l_op (clV (vs := [.agg #[S (y.1), S (y.2)], .agg #[S (x.1), S (x.2)]]) (lb := []) en49 rfl rfl (hc _ fg) ?_);rintro jd je fw rfl;have ⟨fe,co,fg⟩:=be2 fw.2 fe co fg;refine go ?_;by_cases fm : k < 0;refine go ?_;refine l_op (k_indexAddr (i := 1) (oo := o1 + 1 * 2) U23 sz36 rfl hA1 rfl dc rfl ?_);refine l_op (k_loadA (cs := [S (y.1), S (y.2)]) (b := bk1) (o := o1 + 1 * 2) U36 rfl sz36 rfl (fun j u hj => Ext.cell fg (hcs1 j u hj)) ?_);refine SA co (fun jf f6 gw => ?_);have ⟨fe,fg,jg⟩:=pl1 f6 fe fg;refine go ?_;refine l_op (k_add (a := 1) (b := 1) (c := 2) rfl rfl (by unfold In64; omega) rfl ?_);refine go ?_;exact lend (hk := by decide) ⟨2, rfl, rfl, dc, om, fg, fe, (by rw [mnA_2, mn_t (hq.symm.trans (decide_eq_true fm))]; exact gw)⟩;refine go ?_;refine l_op (k_add (a := 1) (b := 1) (c := 2) rfl rfl (by unfold In64; omega) rfl ?_);refine go ?_
 exact lend (hk := by decide) ⟨2, rfl, rfl, dc, om, fg, fe, (by rw [mnA_2, mn_f (hq.symm.trans (decide_eq_false fm))]; exact co)⟩;obtain rfl : i = 2 := by omega
 have co : Blk gh (fh.heap.size) 25 #[S ((mnR q x y).1), S ((mnR q x y).2)] := co;refine go ?_;refine SA fe (fun jh f7 gy => ?_);have ⟨co,fg,ji⟩:=pl1 f7 co fg;refine go ?_;refine f_out (v := .agg #[S ((mnR q x y).1), S ((mnR q x y).2)]) (res1  rfl ?_) fg rfl;refine res_cellA (t := 4) (cs := [S ((mnR q x y).1), S ((mnR q x y).2)]) (b := w.heap.size) (o := 0) U36 rfl sz36 ?_ ?_;exact rfl;exact Blk.cells gy (i := 0) rfl
end Go.Proofs.YtonigegpknhdnaaGreatDoor
