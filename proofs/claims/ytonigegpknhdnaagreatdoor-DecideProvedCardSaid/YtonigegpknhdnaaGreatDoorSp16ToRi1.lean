/- Part of the proof of a statement about decisions. -/
import Derived.Test.YtonigegpknhdnaaGreatDoorRatQToSp15
import Derived.Test.YtonigegpknhdnaaGreatDoorEngPToEngH
import Derived.Test.YtonigegpknhdnaaGreatDoorBaseToEngJ
set_option linter.all false
namespace Go.Proofs.YtonigegpknhdnaaGreatDoor
open Go Go.Eng Go.RowKit
attribute [local irreducible] wpListIn Code.wpIn Oper.wpIn Exit.then Exit.inBlock Exit.noGoto
set_option maxHeartbeats 40000000
structure CellW (k pl:Nat) (r:Int × Int) (f c:Int) : Prop where
  b1:r.1.natAbs<10 ^ 90
  b2:r.2.natAbs<10 ^ 90
  le:r.1≤r.2
  hf:flI r.1 (tenI (pl+k)) (tenI pl)=f
  hc:clI r.2 (tenI (pl+k)) (tenI pl)=c
  f9:f.natAbs<10 ^ 70
  c9:c.natAbs<10 ^ 70
  fc:f≤c
theorem CellW.r {pl:Nat}{r:Int × Int}{f c:Int}(h:CellW 15 pl r f c)(h1:c≤f+1) : CellR pl r f c:=⟨h.b1,h.b2,h.le,h.hf,h.hc,h.f9,h.c9,h.fc,h1⟩
theorem width_gt {f c T:Int}(h:f+1<c)(hT:0<T) : ¬ cmpI ((c*T - f*T)*T) (1*(T*T))≤0:=by
  rw [cmpI_nonpos,← Int.sub_mul,Int.mul_assoc]
  have h1:0<T*T:=Int.mul_pos hT hT
  have h2:2*(T*T)≤(c - f)*(T*T):=Int.mul_le_mul_of_nonneg_right om (Int.le_of_lt h1)
  omega
set_option maxRecDepth 100000 in
theorem cell_two {l m l1 m1 l2 m2 l3 m3 l4 m4 : List UInt8} {g : Nat} {lb : List Value} {a b la lb0 ha hb : Int} {pl : Nat} {w : World} (e : (l, m) = qR a b) (h : Q9 a b) (ha12 : a.natAbs < 10 ^ 12) (hb12 : b < 10 ^ 12) (e1 : (l1, m1) = qR la lb0) (q1 : Q9 la lb0) (e2 : (l2, m2) = qR ha hb) (q2 : Q9 ha hb) {r1 r2 : Int × Int} {f1 c1 f2 c2 : Int} (hrt : rightB pl a b la lb0 ha hb = true) (hp : pl ≤ 12) (hne : ¬ ((l, m) : R) = (l3, m3)) (hg : Enters Tryz.prog g) (hbd1 : ∀ W, Ext w W → Calls Tryz.prog g ([.agg #[.int .i64 ((pl + 15 : Nat) : Int), S (nS (10 ^ (pl + 15)))], .agg #[S l, S m]].toArray ++ lb.toArray) W (Ret W fun v _ => v = .agg #[S (showI r1.1), S (showI r1.2)])) (hbd2 : ∀ W, Ext w W → Calls Tryz.prog g ([.agg #[.int .i64 ((pl + 40 : Nat) : Int), S (nS (10 ^ (pl + 40)))], .agg #[S l, S m]].toArray ++ lb.toArray) W (Ret W fun v _ => v = .agg #[S (showI r2.1), S (showI r2.2)])) (hC1 : CellW 15 pl r1 f1 c1) (hno : f1 + 1 < c1) (hC2 : CellW 40 pl r2 f2 c2) (hone : c2 ≤ f2 + 1) (ht : Tb w) :
    Calls Tryz.prog 77 #[.agg #[S l1,S m1,S l2,S m2,S l3,S m3,S l4,S m4,.func (.func g) #[] lb.toArray],.agg #[S l,S m],.int .i64 pl] w (Ret w fun v w'=>v=.tuple #[.agg #[S ((qR f2 (tenI pl)).1),S ((qR f2 (tenI pl)).2),S ((qR c2 (tenI pl)).1),S ((qR c2 (tenI pl)).2)],.int .i64 0]):=by
 have za1:=ten_q9 (k:=pl+15) hC1.b1 om;have za2:=ten_q9 (k:=pl+15) hC1.b2 om;have ya1:=ten_q9 (k:=pl) (a:=f1) (Nat.lt_of_lt_of_le hC1.f9 dc) om;have ya2:=ten_q9 (k:=pl) (a:=c1) (Nat.lt_of_lt_of_le hC1.c9 dc) om;have wqa:Q9 (c1*tenI pl - f1*tenI pl) (tenI pl*tenI pl):=wq9 hC1.f9 hC1.c9 hp;have zb1:=ten_q9 (k:=pl+40) hC2.b1 om;have zb2:=ten_q9 (k:=pl+40) hC2.b2 om;have yb1:=ten_q9 (k:=pl) (a:=f2) (Nat.lt_of_lt_of_le hC2.f9 dc) om;have yb2:=ten_q9 (k:=pl) (a:=c2) (Nat.lt_of_lt_of_le hC2.c9 dc) om;have wqb:Q9 (c2*tenI pl - f2*tenI pl) (tenI pl*tenI pl):=wq9 hC2.f9 hC2.c9 hp;have ones:=ten_q9 (k:=pl) (a:=1) dc om;refine f_in Tryz.func77 rfl ?_;refine go ?_;refine bx (fun aqj aq5 r8=>?_);have apd:=aq5.2;refine bx (fun aqu aqx sc=>?_);have ⟨r8,apd⟩:=be1 aqx.2 r8 apd;refine al inf1032 (fun _ aqv aol=>?_);have ⟨r8,sc,apd⟩:=be2 aqv.2 r8 sc apd;refine go ?_;refine l_op (k_loadA (cs:=[S l1,S m1,S l2,S m2,S l3,S m3,S l4,S m4,.func (.func g) #[] lb.toArray]) (b:=w.heap.size) (o:=0) U1052 rfl sz1052 rfl (Blk.cells r8 (i:=0) rfl) ?_);refine go ?_;refine cl en1042 (cB (isRight_ok e h ha12 hb12 e1 q1 e2 q2 rfl (ht.ext apd)) hrt) ?_;rintro _ aqk aqt rfl;have ⟨r8,sc,aol,apd⟩:=be3 aqt.2 r8 sc aol apd;refine go ?_;refine l_op (k_eqlR (a:=(l,m)) (b:=(l3,m3)) (q:=decide ((l,m)=(l3,m3))) rfl rfl rfl ?_);refine go ?_;refine BS2 (fun aq6 aql _ aom=>?_)
 have ⟨r8,sc,aol,apd⟩:=be3 aql r8 sc aol apd;have art:=bz aql;refine go ?_;refine c_lp [(7,7),(11,22),(44,111)] (fun kk e W=>∃ i:Nat,(2 - i=kk)∧(e 44=.int .i64 i)∧(i≤1)∧(aq6.heap.size≤W.heap.size)∧(Ext w W)∧(Blk W (w.heap.size) 110 #[S l1,S m1,S l2,S m2,S l3,S m3,S l4,S m4,.func (.func g) #[] lb.toArray])∧(Blk W (aqj.heap.size) 25 #[S l,S m])∧(Blk W (aqu.heap.size) 44 #[S ([]),S ([]),S ([]),S ([])])∧(World.ownsRow W (aqk.heap.size) 3 1 (.slice (some ⟨aqk.heap.size,0,none⟩) 2 2) 2 [.int .i64 15,.int .i64 40])) (2 - 0) ⟨0,rfl,rfl,dc,(Nat.le_refl _),apd,r8,sc,aol,aom⟩ ?_;rintro _ _ _ ⟨i,rfl,aqm,hi,arx,aon,r8,sc,aol,aom⟩;have ary:=bz aon;by_cases hz0:i=0;obtain rfl:i=0:=by omega
 refine go ?_;obtain ⟨bk,oo,hA,hcl⟩:=(Rw.of_own aom).cells 0 _ rfl;refine l_op (k_indexAddr (i:=0) (oo:=oo+0) U24 sz3 rfl hA aqm dc rfl ?_);refine l_op (k_load (v:=.int .i64 15) U3 rfl rfl hcl ?_);refine go ?_;refine l_op (k_add (a:=(pl:Int)) (b:=15) (c:=((pl+15:Nat) : Int)) rfl rfl (by unfold In64; omega) om ?_);refine clb en1035 (hc:=spAt_ok om (ht.ext aon)) (hk:=?_);rintro _ _ aqn rfl;have ⟨r8,sc,aol⟩:=bf3 aqn.2 r8 sc aol;have aom:=own_ext aqn.2 aom;have aon:=xt aon aqn.2;refine al inf1054 (fun _ aqo aq7=>?_);have ⟨r8,sc,aol⟩:=bf3 aqo.2 r8 sc aol;have aom:=own_ext aqo.2 aom;have aon:=xt aon aqo.2;refine SA aq7 (fun _ aqc aop=>?_);have ⟨r8,sc,aol⟩:=pf3 aqc r8 sc aol;have aom:=own_put aqc (by simp [Value.ownBlock]; omega) aom;have aon:=plw aqc aon;have ar2:=psz aqc;refine go ?_;refine l_op (clV (f:=g) (lb:=lb) (vs:=[.agg #[.int .i64 ((((pl+15) : Nat) : Int)),S (nS (10 ^ (pl+15)))],.agg #[S l,S m]]) hg rfl rfl (cArr (hbd1 _ aon)) ?_);rintro _ _ aqd rfl;have ⟨r8,sc,aol⟩:=bf3 aqd.2 r8 sc aol;have aom:=own_ext aqd.2 aom;have ⟨aop,aon⟩:=be1 aqd.2 aop aon;refine al inf1056 (fun _ aqe aq8=>?_);have ⟨r8,sc,aol⟩:=bf3 aqe.2 r8 sc aol;have aom:=own_ext aqe.2 aom;have ⟨aop,aon⟩:=be1 aqe.2 aop aon;refine SA aq8 (fun _ ap5 aor=>?_);have ⟨r8,sc,aol⟩:=pf3 ap5 r8 sc aol;have aom:=own_put ap5 (by simp [Value.ownBlock]; omega) aom;have ⟨aop,aon,_⟩:=pl1 ap5 aop aon;refine go ?_
 refine cl en1046 (rMakeZ_ok rfl rfl za1.fz.1 za1.fz.2 (Int.ne_of_gt za1.2.1) (ht.ext aon)) ?_;rintro _ _ ap6 rfl;have ⟨r8,sc,aol⟩:=bf3 ap6.2 r8 sc aol;have aom:=own_ext ap6.2 aom;have ⟨aop,aor,aon⟩:=be2 ap6.2 aop aor aon;refine go ?_;refine al inf36 (fun _ ap7 aq9=>?_);have ⟨r8,sc,aol⟩:=bf3 ap7.2 r8 sc aol;have aom:=own_ext ap7.2 aom;have ⟨aop,aor,aon⟩:=be2 ap7.2 aop aor aon;refine SA aq9 (fun _ apz aot=>?_);have ⟨r8,sc,aol⟩:=pf3 apz r8 sc aol;have aom:=own_put apz (by simp [Value.ownBlock]; omega) aom;have ⟨aop,aor,aon,_⟩:=pl2 apz aop aor aon;refine go ?_;refine cl en1046 (rMakeZ_ok rfl rfl za2.fz.1 za2.fz.2 (Int.ne_of_gt za2.2.1) (ht.ext aon)) ?_;rintro _ _ ap0 rfl;have ⟨r8,sc,aol⟩:=bf3 ap0.2 r8 sc aol;have aom:=own_ext ap0.2 aom;have ⟨aop,aor,aot,aon⟩:=be3 ap0.2 aop aor aot aon;refine go ?_;refine al inf36 (fun _ ap1 ara=>?_);have ⟨r8,sc,aol⟩:=bf3 ap1.2 r8 sc aol;have aom:=own_ext ap1.2 aom;have ⟨aop,aor,aot,aon⟩:=be3 ap1.2 aop aor aot aon;refine SA ara (fun _ apt aov=>?_);have ⟨r8,sc,aol⟩:=pf3 apt r8 sc aol;have aom:=own_put apt (by simp [Value.ownBlock]; omega) aom;have ⟨aop,aor,aot,aon,_⟩:=pl3 apt aop aor aot aon;refine go ?_
 refine l_op (k_build (vs:=[(0,.agg #[S ((qR r1.1 (tenI (pl+15))).1),S ((qR r1.1 (tenI (pl+15))).2)]),(1,.agg #[S ((qR r1.2 (tenI (pl+15))).1),S ((qR r1.2 (tenI (pl+15))).2)])]) (cells:=#[S ((qR r1.1 (tenI (pl+15))).1),S ((qR r1.1 (tenI (pl+15))).2),S ((qR r1.2 (tenI (pl+15))).1),S ((qR r1.2 (tenI (pl+15))).2)]) (pl:=[(0,2),(2,2)]) U1032 inf1032 (by kernel_rfl) rfl (by kernel_rfl) ?_);refine go ?_;refine clb en1048 (hc:=cEq (Y:=.tuple #[.agg #[S ((qR f1 (tenI pl)).1),S ((qR f1 (tenI pl)).2),S ((qR c1 (tenI pl)).1),S ((qR c1 (tenI pl)).2)],.int .i64 0]) (round_ok (x:=(qR r1.1 (tenI (pl+15)),qR r1.2 (tenI (pl+15)))) rfl rfl za1 za2 (Int.mul_le_mul_of_nonneg_right hC1.le (Int.le_of_lt za1.2.1)) om (ht.ext aon)) (by rw [hC1.hf,hC1.hc])) (hk:=?_);rintro _ aq0 apu rfl;have ⟨r8,sc,aol⟩:=bf3 apu.2 r8 sc aol;have aom:=own_ext apu.2 aom;have ⟨aop,aor,aot,aov,aon⟩:=be4 apu.2 aop aor aot aov aon;refine go ?_;refine al inf1032 (fun _ apv arb=>?_);have ⟨r8,sc,aol⟩:=bf3 apv.2 r8 sc aol;have aom:=own_ext apv.2 aom;have ⟨aop,aor,aot,aov,aon⟩:=be4 apv.2 aop aor aot aov aon;refine SA arb (fun _ ape aox=>?_);have ⟨r8,sc,aol⟩:=pf3 ape r8 sc aol;have aom:=own_put ape (by simp [Value.ownBlock]; omega) aom;have ⟨aop,aor,aot,aov,aon,_⟩:=pl4 ape aop aor aot aov aon;refine go ?_
 refine l_op (k_loadA (cs:=[S ((qR f1 (tenI pl)).1),S ((qR f1 (tenI pl)).2),S ((qR c1 (tenI pl)).1),S ((qR c1 (tenI pl)).2)]) (b:=aq0.heap.size) (o:=0) U1032 rfl sz1032 rfl (Blk.cells aox (i:=0) rfl) ?_);refine cl en1049 (width_ok (x:=(qR f1 (tenI pl),qR c1 (tenI pl))) rfl rfl ya1 ya2 (Int.mul_le_mul_of_nonneg_right hC1.fc (Int.le_of_lt ya1.2.1)) (ht.ext aon)) ?_;rintro _ _ apf rfl;have ⟨r8,sc,aol⟩:=bf3 apf.2 r8 sc aol;have aom:=own_ext apf.2 aom;have ⟨aop,aor,aot,aov,aox,aon⟩:=be5 apf.2 aop aor aot aov aox aon;refine go ?_;refine al inf36 (fun _ apg arc=>?_);have ⟨r8,sc,aol⟩:=bf3 apg.2 r8 sc aol;have aom:=own_ext apg.2 aom;have ⟨aop,aor,aot,aov,aox,aon⟩:=be5 apg.2 aop aor aot aov aox aon;refine SA arc (fun _ ao0 _=>?_);have ⟨r8,sc,aol⟩:=pf3 ao0 r8 sc aol;have aom:=own_put ao0 (by simp [Value.ownBlock]; omega) aom;have ⟨aop,aor,aot,aov,aox,aon,_⟩:=pl5 ao0 aop aor aot aov aox aon;refine go ?_;refine c_an 5 ?_;refine sf ?_;refine sf_ae (V:=.agg #[.int .i64 ((((pl) : Nat) : Int)),S (nS (10 ^ pl))]) (fun _ _ ao1 _=>?_) ?_;refine clb en1035 (hc:=spAt_ok om (ht.ext (xt aon ao1))) (hk:=?_);rintro _ _ ao2 rfl;have ard:=ao2.2;refine go ?_;exact fs ⟨ard,rfl⟩;refine sf_ap (fun _ _ _ _=>by refine l_op (k_field (cs:=[.int .i64 ((((pl) : Nat) : Int)),S (nS (10 ^ pl))]) (v:=S (nS (10 ^ pl))) U1054 rfl rfl rfl U9 rfl rfl rfl ?_);refine go ?_;exact finp) ?_
 refine sf_ae (V:=.agg #[S ([49]),S (nS (10 ^ pl))]) (fun _ _ _ _=>?_) ?_;refine cl en1026 spRatio_ok ?_;rintro _ _ ao3 rfl;have arf:=ao3.2;refine go ?_;exact fs ⟨arf,rfl⟩;refine sf ?_;intro _ _ ao4 _;have ⟨r8,sc,aol⟩:=bf3 ao4.2 r8 sc aol;have aom:=own_ext ao4.2 aom;have aon:=xt aon ao4.2;refine cl en49 (qCmpL rfl step_q wqa ones (ht.ext aon)) ?_;rintro _ _ ao5 rfl;have ⟨r8,sc,aol⟩:=bf3 ao5.2 r8 sc aol;have aom:=own_ext ao5.2 aom;have aon:=xt aon ao5.2;refine go ?_;refine c_false (congrArg Value.bool (decide_eq_false (width_gt hno (ten_pos pl)))) ?_;refine go ?_;refine l_op (k_add (a:=((0:Nat) : Int)) (b:=1) (c:=(((0+1:Nat)) : Int)) aqm rfl (by unfold In64; omega) dc ?_);refine go ?_;exact lend (hk:=by decide) ⟨0+1,rfl,rfl,dc,om,aon,r8,sc,aol,aom⟩;obtain rfl:i=1:=by omega
 refine go ?_;obtain ⟨bk,oo,hA,hcl⟩:=(Rw.of_own aom).cells 1 _ rfl;refine l_op (k_indexAddr (i:=1) (oo:=oo+1) U24 sz3 rfl hA aqm dc rfl ?_);refine l_op (k_load (v:=.int .i64 40) U3 rfl rfl hcl ?_);refine go ?_;refine l_op (k_add (a:=(pl:Int)) (b:=40) (c:=((pl+40:Nat) : Int)) rfl rfl (by unfold In64; omega) om ?_);refine clb en1035 (hc:=spAt_ok om (ht.ext aon)) (hk:=?_);rintro _ _ aqq rfl;have ⟨r8,sc,aol,aon⟩:=be3 aqq.2 r8 sc aol aon;refine al inf1054 (fun _ aqr arh=>?_);have ⟨r8,sc,aol,aon⟩:=be3 aqr.2 r8 sc aol aon;refine SA arh (fun _ aqg aoo=>?_);have ⟨r8,sc,aol,aon,_⟩:=pl3 aqg r8 sc aol aon;refine go ?_;refine l_op (clV (f:=g) (lb:=lb) (vs:=[.agg #[.int .i64 ((((pl+40) : Nat) : Int)),S (nS (10 ^ (pl+40)))],.agg #[S l,S m]]) hg rfl rfl (cArr (hbd2 _ aon)) ?_);rintro _ _ aqh rfl;have ⟨r8,sc,aol,aoo,aon⟩:=be4 aqh.2 r8 sc aol aoo aon;refine al inf1056 (fun _ aqi ari=>?_);have ⟨r8,sc,aol,aoo,aon⟩:=be4 aqi.2 r8 sc aol aoo aon;refine SA ari (fun _ ap8 aoq=>?_);have ⟨r8,sc,aol,aoo,aon,_⟩:=pl4 ap8 r8 sc aol aoo aon;refine go ?_;refine cl en1046 (rMakeZ_ok rfl rfl zb1.fz.1 zb1.fz.2 (Int.ne_of_gt zb1.2.1) (ht.ext aon)) ?_;rintro _ _ ap9 rfl;have ⟨r8,sc,aol,aoo,aoq,aon⟩:=be5 ap9.2 r8 sc aol aoo aoq aon;refine go ?_;refine al inf36 (fun _ aqa arj=>?_);have ⟨r8,sc,aol,aoo,aoq,aon⟩:=be5 aqa.2 r8 sc aol aoo aoq aon;refine SA arj (fun _ ap2 aos=>?_)
 have ⟨r8,sc,aol,aoo,aoq,aon,_⟩:=pl5 ap2 r8 sc aol aoo aoq aon;refine go ?_;refine cl en1046 (rMakeZ_ok rfl rfl zb2.fz.1 zb2.fz.2 (Int.ne_of_gt zb2.2.1) (ht.ext aon)) ?_;rintro _ _ ap3 rfl;have ⟨r8,sc,aol,aoo,aoq⟩:=bf5 ap3.2 r8 sc aol aoo aoq;have ⟨aos,aon⟩:=be1 ap3.2 aos aon;refine go ?_;refine al inf36 (fun _ ap4 ark=>?_);have ⟨r8,sc,aol,aoo,aoq⟩:=bf5 ap4.2 r8 sc aol aoo aoq;have ⟨aos,aon⟩:=be1 ap4.2 aos aon;refine SA ark (fun _ apw aou=>?_);have ⟨r8,sc,aol,aoo,aoq⟩:=pf5 apw r8 sc aol aoo aoq;have ⟨aos,aon,_⟩:=pl1 apw aos aon;refine go ?_;refine l_op (k_build (vs:=[(0,.agg #[S ((qR r2.1 (tenI (pl+40))).1),S ((qR r2.1 (tenI (pl+40))).2)]),(1,.agg #[S ((qR r2.2 (tenI (pl+40))).1),S ((qR r2.2 (tenI (pl+40))).2)])]) (cells:=#[S ((qR r2.1 (tenI (pl+40))).1),S ((qR r2.1 (tenI (pl+40))).2),S ((qR r2.2 (tenI (pl+40))).1),S ((qR r2.2 (tenI (pl+40))).2)]) (pl:=[(0,2),(2,2)]) U1032 inf1032 (by kernel_rfl) rfl (by kernel_rfl) ?_);refine go ?_;refine clb en1048 (hc:=cEq (Y:=.tuple #[.agg #[S ((qR f2 (tenI pl)).1),S ((qR f2 (tenI pl)).2),S ((qR c2 (tenI pl)).1),S ((qR c2 (tenI pl)).2)],.int .i64 0]) (round_ok (x:=(qR r2.1 (tenI (pl+40)),qR r2.2 (tenI (pl+40)))) rfl rfl zb1 zb2 (Int.mul_le_mul_of_nonneg_right hC2.le (Int.le_of_lt zb1.2.1)) om (ht.ext aon)) (by rw [hC2.hf,hC2.hc])) (hk:=?_);rintro _ aqw apx rfl;have ⟨r8,sc,aol,aoo,aoq⟩:=bf5 apx.2 r8 sc aol aoo aoq;have ⟨aos,aou,aon⟩:=be2 apx.2 aos aou aon;refine go ?_
 refine al inf1032 (fun _ apy arl=>?_);have ⟨r8,sc,aol,aoo,aoq⟩:=bf5 apy.2 r8 sc aol aoo aoq;have ⟨aos,aou,aon⟩:=be2 apy.2 aos aou aon;refine SA arl (fun _ apl aow=>?_);have ⟨r8,sc,aol,aoo,aoq⟩:=pf5 apl r8 sc aol aoo aoq;have ⟨aos,aou,aon,_⟩:=pl2 apl aos aou aon;refine go ?_;refine l_op (k_loadA (cs:=[S ((qR f2 (tenI pl)).1),S ((qR f2 (tenI pl)).2),S ((qR c2 (tenI pl)).1),S ((qR c2 (tenI pl)).2)]) (b:=aqw.heap.size) (o:=0) U1032 rfl sz1032 rfl (Blk.cells aow (i:=0) rfl) ?_);refine cl en1049 (width_ok (x:=(qR f2 (tenI pl),qR c2 (tenI pl))) rfl rfl yb1 yb2 (Int.mul_le_mul_of_nonneg_right hC2.fc (Int.le_of_lt yb1.2.1)) (ht.ext aon)) ?_;rintro _ _ apm rfl;have ⟨r8,sc,aol,aoo,aoq⟩:=bf5 apm.2 r8 sc aol aoo aoq;have ⟨aos,aou,aow,aon⟩:=be3 apm.2 aos aou aow aon;refine go ?_;refine al inf36 (fun _ apn arm=>?_);have ⟨r8,sc,aol,aoo,aoq⟩:=bf5 apn.2 r8 sc aol aoo aoq;have ⟨aos,aou,aow,aon⟩:=be3 apn.2 aos aou aow aon;refine SA arm (fun _ ao6 aoy=>?_);have ⟨r8,sc,aol,aoo,aoq⟩:=pf5 ao6 r8 sc aol aoo aoq;have ⟨aos,aou,aow,aon,_⟩:=pl3 ao6 aos aou aow aon;refine go ?_;refine c_an 5 ?_;refine sf ?_;refine sf_ae (V:=.agg #[.int .i64 ((((pl) : Nat) : Int)),S (nS (10 ^ pl))]) (fun _ _ ao7 _=>?_) ?_;refine clb en1035 (hc:=spAt_ok om (ht.ext (xt aon ao7))) (hk:=?_);rintro _ _ ao8 rfl;have arn:=ao8.2;refine go ?_;exact fs ⟨arn,rfl⟩
 refine sf_ap (fun _ _ _ _=>by refine l_op (k_field (cs:=[.int .i64 ((((pl) : Nat) : Int)),S (nS (10 ^ pl))]) (v:=S (nS (10 ^ pl))) U1054 rfl rfl rfl U9 rfl rfl rfl ?_);refine go ?_;exact finp) ?_;refine sf_ae (V:=.agg #[S ([49]),S (nS (10 ^ pl))]) (fun _ _ _ _=>?_) ?_;refine cl en1026 spRatio_ok ?_;rintro _ _ ao9 rfl;have aro:=ao9.2;refine go ?_;exact fs ⟨aro,rfl⟩;refine sf ?_;intro _ _ apa _;have ⟨r8,sc,aol,aoo,aoq⟩:=bf5 apa.2 r8 sc aol aoo aoq;have ⟨aos,aou,aow,aoy,aon⟩:=be4 apa.2 aos aou aow aoy aon;refine cl en49 (qCmpL rfl step_q wqb ones (ht.ext aon)) ?_;rintro _ _ apb rfl;have ⟨r8,sc,aol,aoo,aoq⟩:=bf5 apb.2 r8 sc aol aoo aoq;have ⟨aos,aou,aow,aoy,aon⟩:=be4 apb.2 aos aou aow aoy aon;refine go ?_;refine c_true (congrArg Value.bool (decide_eq_true (width_le hone (ten_pos pl)))) ?_;refine go ?_;refine l_op (k_loadA (cs:=[S ((qR f2 (tenI pl)).1),S ((qR f2 (tenI pl)).2),S ((qR c2 (tenI pl)).1),S ((qR c2 (tenI pl)).2)]) (b:=aqw.heap.size) (o:=0) U1032 rfl sz1032 rfl (Blk.cells aow (i:=0) rfl) ?_);refine SA aol (fun _ apc arp=>?_);have ⟨r8,sc,aoo,aoq,aos⟩:=pf5 apc r8 sc aoo aoq aos;have ⟨aou,aow,aoy,aon,_⟩:=pl3 apc aou aow aoy aon;refine go ?_;refine f_out (v:=.tuple #[.agg #[S ((qR f2 (tenI pl)).1),S ((qR f2 (tenI pl)).2),S ((qR c2 (tenI pl)).1),S ((qR c2 (tenI pl)).2)],.int .i64 0]) (res2 (r1:=.cell 6 44) (r2:=.tmp 7) rfl ?_ ?_) aon rfl
 refine res_cellA (t:=6) (cs:=[S ((qR f2 (tenI pl)).1),S ((qR f2 (tenI pl)).2),S ((qR c2 (tenI pl)).1),S ((qR c2 (tenI pl)).2)]) (b:=aqu.heap.size) (o:=0) U1032 rfl sz1032 ?_ ?_;exact rfl;exact Blk.cells arp (i:=0) rfl;exact res_tmp (t:=7) (by exact rfl) _
set_option maxRecDepth 100000
theorem krSp17 {p : Prop} (h : p:=by kernel_rfl) : p:=h
theorem sl1:([49] : List UInt8)=showI 1:=by decide +kernel
theorem Normal_lo {l m:List UInt8}{pl:Nat}{w:World}{a b:Int}(e:(l,m)=qR a b)(h:Q9 a b)(ha12:a.natAbs<10 ^ 12)(hb12:b<10 ^ 12)(hp:pl≤12)(hrt:rightB pl a b (-10000000000000) 1 10000000000000 1=true)(h8:¬ 0<cmpI (a*1) (-8*b))(hng:neg l=true)(ht:Tb w) :
    Calls Tryz.prog 43 #[.agg #[S l,S m],.int .i64 pl] w (Ret w fun v w'=>v=.tuple #[.agg #[S ([48]),S ([49]),S ((qR 1 (tenI pl)).1),S ((qR 1 (tenI pl)).2)],.int .i64 0]):=by
 have ones:=ten_q9 (k:=pl) (a:=1) dc om;refine f_in Tryz.func43 rfl ?_;refine go ?_;refine bx (fun apn aps r8=>?_);have aom:=aps.2;refine al inf1032 (fun _ apo sc=>?_);have r8:=be apo.2 r8;have aom:=xt aom apo.2;refine go ?_;refine clb en1035 (hc:=spAt_ok (pl:=13) dc (ht.ext aom)) (hk:=?_);rintro _ _ ao5 rfl;have r8:=be ao5.2 r8;have sc:=be ao5.2 sc;have aom:=xt aom ao5.2;refine l_op (k_field (cs:=[.int .i64 (((13:Nat) : Int)),S (nS (10 ^ 13))]) (v:=S (nS (10 ^ 13))) U1054 rfl rfl rfl U9 rfl rfl rfl ?_);refine l_op (k_addS (a:=[45]) (b:=nS (10 ^ 13)) rfl rfl (by decide +kernel) ?_);refine cl en1026 spRatio_ok ?_;rintro _ _ ao6 rfl;have r8:=be ao6.2 r8;have sc:=be ao6.2 sc;have aom:=xt aom ao6.2;refine clb en1035 (hc:=spAt_ok (pl:=13) dc (ht.ext aom)) (hk:=?_);rintro _ _ ao7 rfl;have r8:=be ao7.2 r8;have sc:=be ao7.2 sc;have aom:=xt aom ao7.2;refine l_op (k_field (cs:=[.int .i64 (((13:Nat) : Int)),S (nS (10 ^ 13))]) (v:=S (nS (10 ^ 13))) U1054 rfl rfl rfl U9 rfl rfl rfl ?_);refine cl en1026 spRatio_ok ?_;rintro _ _ ao8 rfl;have r8:=be ao8.2 r8;have sc:=be ao8.2 sc;have aom:=xt aom ao8.2;refine cl en1026 spRatio_ok ?_;rintro _ _ ao9 rfl;have r8:=be ao9.2 r8;have sc:=be ao9.2 sc;have aom:=xt aom ao9.2
 refine cl en1026 spRatio_ok ?_;rintro _ apq apa rfl;have r8:=be apa.2 r8;have sc:=be apa.2 sc;have aom:=xt aom apa.2;refine l_op (k_build (vs:=[(0,.agg #[S (([45]) ++ (nS (10 ^ 13))),S ([49])]),(1,.agg #[S (nS (10 ^ 13)),S ([49])]),(2,.agg #[S ([48]),S ([49])]),(3,.agg #[S ([49]),S ([50])]),(4,.func (.func 75) #[] #[])]) (cells:=#[S (([45]) ++ (nS (10 ^ 13))),S ([49]),S (nS (10 ^ 13)),S ([49]),S ([48]),S ([49]),S ([49]),S ([50]),.func (.func 75) #[] #[]]) (pl:=[(0,2),(2,2),(4,2),(6,2),(8,1)]) U1052 inf1052 krSp17 rfl krSp17 ?_);refine al inf1052 (fun _ apb apt=>?_);have r8:=be apb.2 r8;have sc:=be apb.2 sc;have aom:=xt aom apb.2;refine SA apt (fun _ aot aol=>?_);have r8:=pb aot r8;have sc:=pb aot sc;have aom:=plw aot aom;have aqe:=psz aot;refine go ?_;refine c_an 13 ?_;refine sf_ap (fun _ _ apc _=>by have aol:=be apc aol;refine l_op (k_loadA (cs:=[S (([45]) ++ (nS (10 ^ 13))),S ([49]),S (nS (10 ^ 13)),S ([49]),S ([48]),S ([49]),S ([49]),S ([50]),.func (.func 75) #[] #[]]) (b:=apq.heap.size) (o:=0) U1052 rfl sz1052 rfl (Blk.cells aol (i:=0) rfl) ?_);refine go ?_;exact finp) ?_
 refine sf ?_;refine sf_ae (V:=.bool true) (fun _ _ aou _=>?_) ?_;refine cl en1042 (cB (isRight_ok e h ha12 hb12 qn13 q9n13 qp13 q9p13 rfl (ht.ext (xt aom aou))) hrt) ?_;rintro _ _ aov rfl;have apu:=aov.2;refine go ?_;exact fs ⟨apu,rfl⟩;refine sf ?_;refine sf_ae (V:=.agg #[S ([45,56]),S ([49])]) (fun _ _ _ _=>?_) ?_;refine go ?_;refine cl en1026 spRatio_ok ?_;rintro _ _ aow rfl;have apv:=aow.2;refine go ?_;exact fs ⟨apv,rfl⟩;refine sf_ae (V:=.int .i64 (cmpI (a*1) (-8*b))) (fun _ _ aox _=>?_) ?_;refine go ?_;refine cl en49 (qCmpL e qn8 h q9n8 (ht.ext (xt aom aox))) ?_;rintro _ _ aoy rfl;have apw:=aoy.2;refine go ?_;exact fs ⟨apw,rfl⟩;refine sf ?_;intro _ _ aoz _;have r8:=be aoz.2 r8;have sc:=be aoz.2 sc;have aol:=be aoz.2 aol;have aom:=xt aom aoz.2;with_reducible refine l_drop rfl ?_
 refine go ?_;refine clb en1035 (hc:=spAt_ok (pl:=(pl)) om (ht.ext aom)) (hk:=?_);rintro _ _ ao0 rfl;have r8:=be ao0.2 r8;have sc:=be ao0.2 sc;have aol:=be ao0.2 aol;have aom:=xt aom ao0.2;refine l_op (k_field (cs:=[.int .i64 ((((pl) : Nat) : Int)),S (nS (10 ^ pl))]) (v:=S (nS (10 ^ pl))) U1054 rfl rfl rfl U9 rfl rfl rfl ?_);refine cl en1046 (rMakeZ_ok (b:=tenI pl) sl1 rfl ones.fz.1 ones.fz.2 (Int.ne_of_gt ones.2.1) (ht.ext aom)) ?_;rintro _ _ ao1 rfl;have r8:=be ao1.2 r8;have sc:=be ao1.2 sc;have aol:=be ao1.2 aol;have aom:=xt aom ao1.2;refine go ?_;refine al inf36 (fun _ ao2 apx=>?_);have r8:=be ao2.2 r8;have sc:=be ao2.2 sc;have aol:=be ao2.2 aol;have aom:=xt aom ao2.2;refine SA apx (fun _ aoo aon=>?_);have r8:=pb aoo r8;have sc:=pb aoo sc;have aol:=pb aoo aol;have aom:=plw aoo aom;have ary:=psz aoo;refine go ?_;refine cl en142 (cEq (Y:=.bool true) (hasPrefix_ok _ _) (congrArg Value.bool hng)) ?_;rintro _ _ aop rfl;have r8:=be aop.2 r8;have sc:=be aop.2 sc;have aol:=be aop.2 aol;have aon:=be aop.2 aon;have aom:=xt aom aop.2;refine go ?_;refine c_an 2 ?_;refine sf_ae (V:=.agg #[S ([48]),S ([49])]) (fun _ _ _ _=>?_) ?_;refine cl en1026 spRatio_ok ?_;rintro _ _ aoq rfl;have apy:=aoq.2
 refine go ?_;exact fs ⟨apy,rfl⟩;refine sf ?_;intro _ _ aor _;have r8:=be aor.2 r8;have sc:=be aor.2 sc;have aol:=be aor.2 aol;have aon:=be aor.2 aon;have aom:=xt aom aor.2;refine l_op (k_build (vs:=[(0,.agg #[S ([48]),S ([49])]),(1,.agg #[S ((qR 1 (tenI pl)).1),S ((qR 1 (tenI pl)).2)])]) (cells:=#[S ([48]),S ([49]),S ((qR 1 (tenI pl)).1),S ((qR 1 (tenI pl)).2)]) (pl:=[(0,2),(2,2)]) U1032 inf1032 krSp17 rfl krSp17 ?_);refine SA sc (fun _ aos apz=>?_);have r8:=pb aos r8;have aol:=pb aos aol;have aon:=pb aos aon;have aom:=plw aos aom;have asd:=psz aos;refine go ?_;refine f_out (v:=.tuple #[.agg #[S ([48]),S ([49]),S ((qR 1 (tenI pl)).1),S ((qR 1 (tenI pl)).2)],.int .i64 0]) (res2 (r1:=.cell 4 44) (r2:=.tmp 5) rfl ?_ ?_) aom rfl;refine res_cellA (t:=4) (cs:=[S ([48]),S ([49]),S ((qR 1 (tenI pl)).1),S ((qR 1 (tenI pl)).2)]) (b:=apn.heap.size) (o:=0) U1032 rfl sz1032 ?_ ?_;exact rfl;exact Blk.cells apz (i:=0) rfl;exact res_tmp (t:=5) (by exact rfl) _
theorem Normal_hi {l m:List UInt8}{pl:Nat}{w:World}{a b:Int}(e:(l,m)=qR a b)(h:Q9 a b)(ha12:a.natAbs<10 ^ 12)(hb12:b<10 ^ 12)(hp:pl≤12)(hrt:rightB pl a b (-10000000000000) 1 10000000000000 1=true)(h8:0<cmpI (a*1) (-8*b))(h9:¬ cmpI (a*1) (8*b)<0)(hng:neg l=false)(ht:Tb w) :
    Calls Tryz.prog 43 #[.agg #[S l,S m],.int .i64 pl] w (Ret w fun v w'=>v=.tuple #[.agg #[S ((qR (1*tenI pl - 1*1) (1*tenI pl)).1),S ((qR (1*tenI pl - 1*1) (1*tenI pl)).2),S ([49]),S ([49])],.int .i64 0]):=by
 have ones:=ten_q9 (k:=pl) (a:=1) dc om;refine f_in Tryz.func43 rfl ?_;refine go ?_;refine bx (fun ao1 asu sc=>?_);have r8:=asu.2;refine al inf1032 (fun _ aru aol=>?_);have sc:=be aru.2 sc;have r8:=xt r8 aru.2;refine go ?_;refine clb en1035 (hc:=spAt_ok (pl:=13) dc (ht.ext r8)) (hk:=?_);rintro _ _ aq2 rfl;have sc:=be aq2.2 sc;have aol:=be aq2.2 aol;have r8:=xt r8 aq2.2;refine l_op (k_field (cs:=[.int .i64 (((13:Nat) : Int)),S (nS (10 ^ 13))]) (v:=S (nS (10 ^ 13))) U1054 rfl rfl rfl U9 rfl rfl rfl ?_);refine l_op (k_addS (a:=[45]) (b:=nS (10 ^ 13)) rfl rfl (by decide +kernel) ?_);refine cl en1026 spRatio_ok ?_;rintro _ _ aq3 rfl;have sc:=be aq3.2 sc;have aol:=be aq3.2 aol;have r8:=xt r8 aq3.2;refine clb en1035 (hc:=spAt_ok (pl:=13) dc (ht.ext r8)) (hk:=?_);rintro _ _ aq4 rfl;have sc:=be aq4.2 sc;have aol:=be aq4.2 aol;have r8:=xt r8 aq4.2;refine l_op (k_field (cs:=[.int .i64 (((13:Nat) : Int)),S (nS (10 ^ 13))]) (v:=S (nS (10 ^ 13))) U1054 rfl rfl rfl U9 rfl rfl rfl ?_);refine cl en1026 spRatio_ok ?_;rintro _ _ aq5 rfl;have sc:=be aq5.2 sc;have aol:=be aq5.2 aol;have r8:=xt r8 aq5.2;refine cl en1026 spRatio_ok ?_;rintro _ _ aq6 rfl;have sc:=be aq6.2 sc;have aol:=be aq6.2 aol;have r8:=xt r8 aq6.2
 refine cl en1026 spRatio_ok ?_;rintro _ ao2 aq7 rfl;have sc:=be aq7.2 sc;have aol:=be aq7.2 aol;have r8:=xt r8 aq7.2;refine l_op (k_build (vs:=[(0,.agg #[S (([45]) ++ (nS (10 ^ 13))),S ([49])]),(1,.agg #[S (nS (10 ^ 13)),S ([49])]),(2,.agg #[S ([48]),S ([49])]),(3,.agg #[S ([49]),S ([50])]),(4,.func (.func 75) #[] #[])]) (cells:=#[S (([45]) ++ (nS (10 ^ 13))),S ([49]),S (nS (10 ^ 13)),S ([49]),S ([48]),S ([49]),S ([49]),S ([50]),.func (.func 75) #[] #[]]) (pl:=[(0,2),(2,2),(4,2),(6,2),(8,1)]) U1052 inf1052 krSp17 rfl krSp17 ?_);refine al inf1052 (fun _ aq8 asv=>?_);have sc:=be aq8.2 sc;have aol:=be aq8.2 aol;have r8:=xt r8 aq8.2;refine SA asv (fun _ apz aom=>?_);have sc:=pb apz sc;have aol:=pb apz aol;have r8:=plw apz r8;have avh:=psz apz;refine go ?_;refine c_an 13 ?_;refine sf_ap (fun _ _ aq9 _=>by have aom:=be aq9 aom;refine l_op (k_loadA (cs:=[S (([45]) ++ (nS (10 ^ 13))),S ([49]),S (nS (10 ^ 13)),S ([49]),S ([48]),S ([49]),S ([49]),S ([50]),.func (.func 75) #[] #[]]) (b:=ao2.heap.size) (o:=0) U1052 rfl sz1052 rfl (Blk.cells aom (i:=0) rfl) ?_);refine go ?_;exact finp) ?_
 refine sf ?_;refine sf_ae (V:=.bool true) (fun _ _ ap0 _=>?_) ?_;refine cl en1042 (cB (isRight_ok e h ha12 hb12 qn13 q9n13 qp13 q9p13 rfl (ht.ext (xt r8 ap0))) hrt) ?_;rintro _ _ ap1 rfl;have asw:=ap1.2;refine go ?_;exact fs ⟨asw,rfl⟩;refine sf ?_;refine sf_ae (V:=.agg #[S ([45,56]),S ([49])]) (fun _ _ _ _=>?_) ?_;refine go ?_;refine cl en1026 spRatio_ok ?_;rintro _ _ ap2 rfl;have asx:=ap2.2;refine go ?_;exact fs ⟨asx,rfl⟩;refine sf_ae (V:=.int .i64 (cmpI (a*1) (-8*b))) (fun _ _ ap3 _=>?_) ?_;refine go ?_;refine cl en49 (qCmpL e qn8 h q9n8 (ht.ext (xt r8 ap3))) ?_;rintro _ _ ap4 rfl;have asy:=ap4.2;refine go ?_;exact fs ⟨asy,rfl⟩;refine sf ?_;refine sf_ae (V:=.agg #[S ([56]),S ([49])]) (fun _ _ _ _=>?_) ?_;refine go ?_;refine cl en1026 spRatio_ok ?_;rintro _ _ ap5 rfl;have asz:=ap5.2;refine go ?_;exact fs ⟨asz,rfl⟩;refine sf ?_;intro _ _ ap6 _;have sc:=be ap6.2 sc;have aol:=be ap6.2 aol;have aom:=be ap6.2 aom;have r8:=xt r8 ap6.2;with_reducible refine l_drop rfl ?_
 refine go ?_;refine cl en49 (qCmpL e qp8 h q9p8 (ht.ext r8)) ?_;rintro _ _ ap7 rfl;have sc:=be ap7.2 sc;have aol:=be ap7.2 aol;have aom:=be ap7.2 aom;have r8:=xt r8 ap7.2;refine go ?_;refine clb en1035 (hc:=spAt_ok (pl:=(pl)) om (ht.ext r8)) (hk:=?_);rintro _ _ ap8 rfl;have sc:=be ap8.2 sc;have aol:=be ap8.2 aol;have aom:=be ap8.2 aom;have r8:=xt r8 ap8.2;refine l_op (k_field (cs:=[.int .i64 ((((pl) : Nat) : Int)),S (nS (10 ^ pl))]) (v:=S (nS (10 ^ pl))) U1054 rfl rfl rfl U9 rfl rfl rfl ?_);refine cl en1046 (rMakeZ_ok (b:=tenI pl) sl1 rfl ones.fz.1 ones.fz.2 (Int.ne_of_gt ones.2.1) (ht.ext r8)) ?_;rintro _ ao3 ap9 rfl;have sc:=be ap9.2 sc;have aol:=be ap9.2 aol;have aom:=be ap9.2 aom;have r8:=xt r8 ap9.2;refine go ?_;refine al inf36 (fun _ aqa as0=>?_);have sc:=be aqa.2 sc;have aol:=be aqa.2 aol;have aom:=be aqa.2 aom;have r8:=xt r8 aqa.2;refine SA as0 (fun _ apk arm=>?_);have sc:=pb apk sc;have aol:=pb apk aol;have aom:=pb apk aom;have r8:=plw apk r8;have aw3:=psz apk;refine go ?_;refine cl en142 (cEq (Y:=.bool false) (hasPrefix_ok _ _) (congrArg Value.bool hng)) ?_;rintro _ arn apl rfl;have sc:=be apl.2 sc;have aol:=be apl.2 aol;have aom:=be apl.2 aom;have arm:=be apl.2 arm;have r8:=xt r8 apl.2
 refine go ?_;have apa:=Ext.drew arn;refine c_st2 hmix 8 (fun e0 ls e W=>∃ aon:Nat,(∀ t,inB [9,57,58,59,60,61,62] t=false→e t=e0 t)∧(Ext w W)∧(arn.heap.size≤W.heap.size)∧(ls 0=true→e 58=.agg #[S ([49]),S ([49])])∧(ls 1=true→e 59=.agg #[S ((qR 1 (tenI pl)).1),S ((qR 1 (tenI pl)).2)])∧(ls 2=true→e 60=.tuple #[.agg #[S ((qR (1*tenI pl - 1*1) (1*tenI pl)).1),S ((qR (1*tenI pl - 1*1) (1*tenI pl)).2)],.int .i64 0])∧(ls 3=true→e 57=.tuple #[.agg #[S ((qR (1*tenI pl - 1*1) (1*tenI pl)).1),S ((qR (1*tenI pl - 1*1) (1*tenI pl)).2)],.int .i64 0])∧(ls 4=true→e 61=.agg #[S ((qR (1*tenI pl - 1*1) (1*tenI pl)).1),S ((qR (1*tenI pl - 1*1) (1*tenI pl)).2)])∧(ls 5=true→e 62=.int .i64 0)∧(ls 6=true→e 9=.pointer (some ⟨aon,0,none⟩))∧(ls 6=true→arn.heap.size≤aon)∧(Blk W (w.heap.size) 25 #[S l,S m])∧(Blk W (ao1.heap.size) 44 #[S ([]),S ([]),S ([]),S ([])])∧(Blk W (ao2.heap.size) 110 #[S (([45]) ++ (nS (10 ^ 13))),S ([49]),S (nS (10 ^ 13)),S ([49]),S ([48]),S ([49]),S ([49]),S ([50]),.func (.func 75) #[] #[]])∧(Blk W (ao3.heap.size) 25 #[S ((qR 1 (tenI pl)).1),S ((qR 1 (tenI pl)).2)])∧(ls 6=true→ls 7=false→Blk W aon 25 #[S ([]),S ([])])∧(ls 7=true→Blk W aon 25 #[S ((qR (1*tenI pl - 1*1) (1*tenI pl)).1),S ((qR (1*tenI pl - 1*1) (1*tenI pl)).2)])) ⟨0,(fun _ _=>rfl),(xt r8 apa),(bz apa),(ff rfl),(ff rfl),(ff rfl),(ff rfl),(ff rfl),(ff rfl),(ff rfl),(ff rfl),(be apa sc),(be apa aol),(be apa aom),(be apa arm),(fun h _=>ff rfl h),(fun h =>ff rfl h)⟩ krSp17 krSp17 ?_ ?_
 refine ⟨fun aw5 aqb apm as1 apn arv _=>?_,?_⟩;obtain ⟨aon,as2,r8,zst,aov,aow,aox,aoo,aoy,aoz,aop,aoq,aor,aos,aot,aou,ao0,ao8⟩:=as1;obtain ⟨aw5,rfl⟩:=ovE as2;have as3:apm 2=false:=(unl apn (i:=0) (j:=2) rfl arv);have as4:apm 7=false:=(unl apn (i:=0) (j:=7) rfl arv);have arw:apm 3=false:=(unl apn (i:=2) (j:=3) rfl as3);have aw7:apm 4=false:=(unl apn (i:=3) (j:=4) rfl arw);have aw8:apm 5=false:=(unl apn (i:=3) (j:=5) rfl arw);have aw9:=bz r8;have aqc:Blk aqb (w.heap.size) 25 #[S l,S m]:=aor;have axa:=bt aqc;have aqd:Blk aqb (ao1.heap.size) 44 #[S ([]),S ([]),S ([]),S ([])]:=aos;have axb:=bt aqd;have aqe:Blk aqb (ao2.heap.size) 110 #[S (([45]) ++ (nS (10 ^ 13))),S ([49]),S (nS (10 ^ 13)),S ([49]),S ([48]),S ([49]),S ([49]),S ([50]),.func (.func 75) #[] #[]]:=aot;have axc:=bt aqe;have aqf:Blk aqb (ao3.heap.size) 25 #[S ((qR 1 (tenI pl)).1),S ((qR 1 (tenI pl)).2)]:=aou;have axd:=bt aqf;refine cl en1026 spRatio_ok ?_;rintro _ _ apb rfl;have aqc:=be apb.2 aqc;have aqd:=be apb.2 aqd;have aqe:=be apb.2 aqe;have aqf:=be apb.2 aqf;have r8:=xt r8 apb.2;refine go ?_;exact ⟨rfl,_,(act_put _ _ _ _ _).symm,aon,(same_upd rfl as2),r8,om,(fun _=>rfl),aow,aox,aoo,aoy,aoz,aop,aoq,(aqc),(aqd),(aqe),(aqf),(fun as5 as6=>(be apb.2 (ao0 as5 as6))),(fun as7=>ff as4 as7)⟩;refine ⟨fun axg aqg apo as8 apq arx _=>?_,?_⟩
 obtain ⟨aon,ary,r8,zst,aov,aow,aox,aoo,aoy,aoz,aop,aoq,aor,aos,aot,aou,ao0,ao8⟩:=as8;obtain ⟨axg,rfl⟩:=ovE ary;have as9:apo 2=false:=(unl apq (i:=1) (j:=2) rfl arx);have ata:apo 7=false:=(unl apq (i:=1) (j:=7) rfl arx);have arz:apo 3=false:=(unl apq (i:=2) (j:=3) rfl as9);have axi:apo 4=false:=(unl apq (i:=3) (j:=4) rfl arz);have axj:apo 5=false:=(unl apq (i:=3) (j:=5) rfl arz);have axk:=bz r8;have ar0:Blk aqg (w.heap.size) 25 #[S l,S m]:=aor;have axl:=bt ar0;have ar1:Blk aqg (ao1.heap.size) 44 #[S ([]),S ([]),S ([]),S ([])]:=aos;have axm:=bt ar1;have ar2:Blk aqg (ao2.heap.size) 110 #[S (([45]) ++ (nS (10 ^ 13))),S ([49]),S (nS (10 ^ 13)),S ([49]),S ([48]),S ([49]),S ([49]),S ([50]),.func (.func 75) #[] #[]]:=aot;have axn:=bt ar2;have aro:Blk aqg (ao3.heap.size) 25 #[S ((qR 1 (tenI pl)).1),S ((qR 1 (tenI pl)).2)]:=aou;have axo:=bt aro;refine go ?_;exact ⟨rfl,_,(act_put _ _ _ _ _).symm,aon,(same_upd rfl ary),r8,om,aov,(fun _=>rfl),aox,aoo,aoy,aoz,aop,aoq,(ar0),(ar1),(ar2),(aro),(fun atb atc=>ao0 atb atc),(fun atd=>ff ata atd)⟩;refine ⟨fun ar3 aqh apc ate aqi ar4 ar5=>?_,?_⟩;obtain ⟨aon,atf,r8,zst,aov,aow,aox,aoo,aoy,aoz,aop,aoq,aor,aos,aot,aou,ao0,ao8⟩:=ate;obtain ⟨ar3,rfl⟩:=ovE atf;have atg:apc 0=true:=(ar5 0 rfl);have ath:apc 1=true:=(ar5 1 rfl);have ar6:apc 3=false:=(unl aqi (i:=2) (j:=3) rfl ar4)
 have ati:apc 7=false:=(unl aqi (i:=2) (j:=7) rfl ar4);have axp:apc 4=false:=(unl aqi (i:=3) (j:=4) rfl ar6);have axq:apc 5=false:=(unl aqi (i:=3) (j:=5) rfl ar6);have atj:ar3 58=.agg #[S ([49]),S ([49])]:=aov atg;have atk:ar3 59=.agg #[S ((qR 1 (tenI pl)).1),S ((qR 1 (tenI pl)).2)]:=aow ath;have axr:=bz r8;have aqj:Blk aqh (w.heap.size) 25 #[S l,S m]:=aor;have axs:=bt aqj;have aqk:Blk aqh (ao1.heap.size) 44 #[S ([]),S ([]),S ([]),S ([])]:=aos;have axt:=bt aqk;have aql:Blk aqh (ao2.heap.size) 110 #[S (([45]) ++ (nS (10 ^ 13))),S ([49]),S (nS (10 ^ 13)),S ([49]),S ([48]),S ([49]),S ([49]),S ([50]),.func (.func 75) #[] #[]]:=aot;have axu:=bt aql;have aqm:Blk aqh (ao3.heap.size) 25 #[S ((qR 1 (tenI pl)).1),S ((qR 1 (tenI pl)).2)]:=aou;have axv:=bt aqm;refine cl en220 (qSubL q11 rfl q9l1 ones (ht.ext r8)) ?_ (cons_eq atj (cons_eq atk rfl));rintro _ _ apd rfl;have aqj:=be apd.2 aqj;have aqk:=be apd.2 aqk;have aql:=be apd.2 aql;have aqm:=be apd.2 aqm;have r8:=xt r8 apd.2;refine go ?_;exact ⟨rfl,_,(act_put _ _ _ _ _).symm,aon,(same_upd rfl atf),r8,om,aov,aow,(fun _=>rfl),aoo,aoy,aoz,aop,aoq,(aqj),(aqk),(aql),(aqm),(fun atl atm=>(be apd.2 (ao0 atl atm))),(fun atn=>ff ati atn)⟩;refine ⟨fun ato aqn ape atp apr arp atq=>?_,?_⟩;obtain ⟨aon,atr,r8,zst,aov,aow,aox,aoo,aoy,aoz,aop,aoq,aor,aos,aot,aou,ao0,ao8⟩:=atp
 obtain ⟨ato,rfl⟩:=ovE atr;have arq:ape 2=true:=(atq 2 rfl);have axy:ape 0=true:=(apr 2 0 rfl arq);have axz:ape 1=true:=(apr 2 1 rfl arq);have ax0:ape 4=false:=(unl apr (i:=3) (j:=4) rfl arp);have ax1:ape 5=false:=(unl apr (i:=3) (j:=5) rfl arp);have att:ape 7=false:=(unl apr (i:=3) (j:=7) rfl arp);have atu:ato 60=.tuple #[.agg #[S ((qR (1*tenI pl - 1*1) (1*tenI pl)).1),S ((qR (1*tenI pl - 1*1) (1*tenI pl)).2)],.int .i64 0]:=aox arq;have ax2:=bz r8;have ar7:Blk aqn (w.heap.size) 25 #[S l,S m]:=aor;have ax3:=bt ar7;have ar8:Blk aqn (ao1.heap.size) 44 #[S ([]),S ([]),S ([]),S ([])]:=aos;have ax4:=bt ar8;have ar9:Blk aqn (ao2.heap.size) 110 #[S (([45]) ++ (nS (10 ^ 13))),S ([49]),S (nS (10 ^ 13)),S ([49]),S ([48]),S ([49]),S ([49]),S ([50]),.func (.func 75) #[] #[]]:=aot;have ax5:=bt ar9;have asa:Blk aqn (ao3.heap.size) 25 #[S ((qR 1 (tenI pl)).1),S ((qR 1 (tenI pl)).2)]:=aou;have ax6:=bt asa;refine go ?_;exact ⟨rfl,_,(act_put _ _ _ _ _).symm,aon,(same_upd rfl atr),r8,om,aov,aow,aox,(fun _=>rfl),aoy,aoz,aop,aoq,(ar7),(ar8),(ar9),(asa),(fun atv atw=>ao0 atv atw),(fun atx=>ff att atx)⟩;refine ⟨fun aty aqo aps atz aqp at0 at1=>?_,?_⟩;obtain ⟨aon,at2,r8,zst,aov,aow,aox,aoo,aoy,aoz,aop,aoq,aor,aos,aot,aou,ao0,ao8⟩:=atz;obtain ⟨aty,rfl⟩:=ovE at2;have asb:aps 3=true:=(at1 3 rfl);have asc:aps 2=true:=(aqp 3 2 rfl asb)
 have ax7:aps 0=true:=(aqp 2 0 rfl asc);have ax8:aps 1=true:=(aqp 2 1 rfl asc);have at3:aps 7=false:=(unl aqp (i:=4) (j:=7) rfl at0);have at4:aty 57=.tuple #[.agg #[S ((qR (1*tenI pl - 1*1) (1*tenI pl)).1),S ((qR (1*tenI pl - 1*1) (1*tenI pl)).2)],.int .i64 0]:=aoo asb;have ax9:=bz r8;have asd:Blk aqo (w.heap.size) 25 #[S l,S m]:=aor;have aya:=bt asd;have ase:Blk aqo (ao1.heap.size) 44 #[S ([]),S ([]),S ([]),S ([])]:=aos;have ayb:=bt ase;have asf:Blk aqo (ao2.heap.size) 110 #[S (([45]) ++ (nS (10 ^ 13))),S ([49]),S (nS (10 ^ 13)),S ([49]),S ([48]),S ([49]),S ([49]),S ([50]),.func (.func 75) #[] #[]]:=aot;have ayc:=bt asf;have asg:Blk aqo (ao3.heap.size) 25 #[S ((qR 1 (tenI pl)).1),S ((qR 1 (tenI pl)).2)]:=aou;have ayd:=bt asg;refine go ?_;exact ⟨rfl,_,(act_put _ _ _ _ _).symm,aon,(same_upd rfl at2),r8,om,aov,aow,aox,aoo,(fun _=>rfl),aoz,aop,aoq,(asd),(ase),(asf),(asg),(fun at5 at6=>ao0 at5 at6),(fun at7=>ff at3 at7)⟩;refine ⟨fun at8 aqq aqr at9 arr _ aua=>?_,?_⟩;obtain ⟨aon,aub,r8,zst,aov,aow,aox,aoo,aoy,aoz,aop,aoq,aor,aos,aot,aou,ao0,ao8⟩:=at9;obtain ⟨at8,rfl⟩:=ovE aub;have ash:aqr 3=true:=(aua 3 rfl);have asi:aqr 2=true:=(arr 3 2 rfl ash);have ayf:aqr 0=true:=(arr 2 0 rfl asi);have ayg:aqr 1=true:=(arr 2 1 rfl asi);have auc:at8 57=.tuple #[.agg #[S ((qR (1*tenI pl - 1*1) (1*tenI pl)).1),S ((qR (1*tenI pl - 1*1) (1*tenI pl)).2)],.int .i64 0]:=aoo ash
 have ayh:=bz r8;have asj:Blk aqq (w.heap.size) 25 #[S l,S m]:=aor;have ayi:=bt asj;have ask:Blk aqq (ao1.heap.size) 44 #[S ([]),S ([]),S ([]),S ([])]:=aos;have ayj:=bt ask;have asl:Blk aqq (ao2.heap.size) 110 #[S (([45]) ++ (nS (10 ^ 13))),S ([49]),S (nS (10 ^ 13)),S ([49]),S ([48]),S ([49]),S ([49]),S ([50]),.func (.func 75) #[] #[]]:=aot;have ayk:=bt asl;have asm:Blk aqq (ao3.heap.size) 25 #[S ((qR 1 (tenI pl)).1),S ((qR 1 (tenI pl)).2)]:=aou;have ayl:=bt asm;refine go ?_;exact ⟨rfl,_,(act_put _ _ _ _ _).symm,aon,(same_upd rfl aub),r8,om,aov,aow,aox,aoo,aoy,(fun _=>rfl),aop,aoq,(asj),(ask),(asl),(asm),(fun aud aue=>ao0 aud aue),(fun auf=>ao8 auf)⟩;refine ⟨fun aym apt aug auh aui auj _=>?_,?_⟩;obtain ⟨aon,auk,r8,zst,aov,aow,aox,aoo,aoy,aoz,aop,aoq,aor,aos,aot,aou,ao0,ao8⟩:=auh;obtain ⟨aym,rfl⟩:=ovE auk;have aul:aug 7=false:=(unl aui (i:=6) (j:=7) rfl auj);have ayo:=bz r8;have aqs:Blk apt (w.heap.size) 25 #[S l,S m]:=aor;have ayp:=bt aqs;have aqt:Blk apt (ao1.heap.size) 44 #[S ([]),S ([]),S ([]),S ([])]:=aos;have ayq:=bt aqt;have aqu:Blk apt (ao2.heap.size) 110 #[S (([45]) ++ (nS (10 ^ 13))),S ([49]),S (nS (10 ^ 13)),S ([49]),S ([48]),S ([49]),S ([49]),S ([50]),.func (.func 75) #[] #[]]:=aot;have ayr:=bt aqu;have aqv:Blk apt (ao3.heap.size) 25 #[S ((qR 1 (tenI pl)).1),S ((qR 1 (tenI pl)).2)]:=aou
 have ays:=bt aqv;refine al inf36 (fun _ apu aum=>?_);have aqs:=be apu.2 aqs;have aqt:=be apu.2 aqt;have aqu:=be apu.2 aqu;have aqv:=be apu.2 aqv;have r8:=xt r8 apu.2;refine go ?_;exact ⟨rfl,_,(act_put _ _ _ _ _).symm,apt.heap.size,(same_upd rfl auk),r8,om,aov,aow,aox,aoo,aoy,aoz,(fun _=>rfl),(fun _=>om),(aqs),(aqt),(aqu),(aqv),(fun _ _=>aum),(fun aun=>ff aul aun)⟩;refine ⟨fun aso apv apf auo aqw aup asp=>?_,?_⟩;obtain ⟨aon,auq,r8,zst,aov,aow,aox,aoo,aoy,aoz,aop,aoq,aor,aos,aot,aou,ao0,ao8⟩:=auo;obtain ⟨aso,rfl⟩:=ovE auq;have ars:apf 6=true:=(asp 6 rfl);have asq:apf 4=true:=(asp 4 rfl);have aur:apf 3=true:=(aqw 4 3 rfl asq);have asr:apf 2=true:=(aqw 3 2 rfl aur);have ayw:apf 0=true:=(aqw 2 0 rfl asr);have ayx:apf 1=true:=(aqw 2 1 rfl asr);have aus:aso 61=.agg #[S ((qR (1*tenI pl - 1*1) (1*tenI pl)).1),S ((qR (1*tenI pl - 1*1) (1*tenI pl)).2)]:=aoy asq;have aut:aso 9=.pointer (some ⟨aon,0,none⟩):=aop ars;have ayy:=bz r8;have auu:=aoq ars;have aqx:Blk apv (w.heap.size) 25 #[S l,S m]:=aor;have ayz:=bt aqx;have aqy:Blk apv (ao1.heap.size) 44 #[S ([]),S ([]),S ([]),S ([])]:=aos;have ay0:=bt aqy;have aqz:Blk apv (ao2.heap.size) 110 #[S (([45]) ++ (nS (10 ^ 13))),S ([49]),S (nS (10 ^ 13)),S ([49]),S ([48]),S ([49]),S ([49]),S ([50]),.func (.func 75) #[] #[]]:=aot
 have ay1:=bt aqz;have aq0:Blk apv (ao3.heap.size) 25 #[S ((qR 1 (tenI pl)).1),S ((qR 1 (tenI pl)).2)]:=aou;have ay2:=bt aq0;have ass:Blk apv aon 25 #[S ([]),S ([])]:=ao0 ars aup;have ay3:=bt ass;refine SA ass (fun _ apg auv=>?_);have aqx:=pb apg aqx;have aqy:=pb apg aqy;have aqz:=pb apg aqz;have aq0:=pb apg aq0;have r8:=plw apg r8;have ay5:=psz apg;refine go ?_;exact ⟨rfl,undef,rfl,aon,auq,r8,om,aov,aow,aox,aoo,aoy,aoz,aop,aoq,(aqx),(aqy),(aqz),(aq0),(fun _ auw=>tf rfl auw),(fun _=>auv)⟩;exact trivial;intro art apw _ aq1 aux;obtain ⟨aon,auy,r8,zst,aov,aow,aox,aoo,aoy,aoz,aop,aoq,aor,aos,aot,aou,ao0,ao8⟩:=aux;obtain ⟨art,rfl⟩:=ovE auy;have ay9:=bz r8;have auu:=aoq (aq1 6 rfl);have ao5:Blk apw (w.heap.size) 25 #[S l,S m]:=aor;have aza:=bt ao5;have ao9:Blk apw (ao1.heap.size) 44 #[S ([]),S ([]),S ([]),S ([])]:=aos;have azb:=bt ao9;have ao6:Blk apw (ao2.heap.size) 110 #[S (([45]) ++ (nS (10 ^ 13))),S ([49]),S (nS (10 ^ 13)),S ([49]),S ([48]),S ([49]),S ([49]),S ([50]),.func (.func 75) #[] #[]]:=aot;have azc:=bt ao6;have ao7:Blk apw (ao3.heap.size) 25 #[S ((qR 1 (tenI pl)).1),S ((qR 1 (tenI pl)).2)]:=aou;have azd:=bt ao7;have ao4:Blk apw aon 25 #[S ((qR (1*tenI pl - 1*1) (1*tenI pl)).1),S ((qR (1*tenI pl - 1*1) (1*tenI pl)).2)]:=ao8 (aq1 7 rfl)
 have aze:=bt ao4;have auz:art 62=.int .i64 (0):=(aoz (aq1 5 rfl));refine go ?_;have au0:art 9=.pointer (some ⟨aon,0,none⟩):=(aop (aq1 6 rfl));refine c_an 2 ?_;refine sf ?_;refine sf_ae (V:=.agg #[S ([49]),S ([49])]) (fun _ _ _ _=>?_) ?_;refine cl en1026 spRatio_ok ?_;rintro _ _ aph rfl;have au1:=aph.2;refine go ?_;exact fs ⟨au1,rfl⟩;refine sf ?_;intro _ _ api _;have ao5:=be api.2 ao5;have ao9:=be api.2 ao9;have ao6:=be api.2 ao6;have ao7:=be api.2 ao7;have ao4:=be api.2 ao4;have r8:=xt r8 api.2;refine l_op (k_build (vs:=[(0,.agg #[S ((qR (1*tenI pl - 1*1) (1*tenI pl)).1),S ((qR (1*tenI pl - 1*1) (1*tenI pl)).2)]),(1,.agg #[S ([49]),S ([49])])]) (cells:=#[S ((qR (1*tenI pl - 1*1) (1*tenI pl)).1),S ((qR (1*tenI pl - 1*1) (1*tenI pl)).2),S ([49]),S ([49])]) (pl:=[(0,2),(2,2)]) U1032 inf1032 krSp17 rfl krSp17 ?_);refine SA ao9 (fun _ apj au2=>?_);have ao5:=pb apj ao5;have ao6:=pb apj ao6;have ao7:=pb apj ao7;have ao4:=pb apj ao4;have r8:=plw apj r8;have azr:=psz apj;refine go ?_;refine f_out (v:=.tuple #[.agg #[S ((qR (1*tenI pl - 1*1) (1*tenI pl)).1),S ((qR (1*tenI pl - 1*1) (1*tenI pl)).2),S ([49]),S ([49])],.int .i64 0]) (res2 (r1:=.cell 4 44) (r2:=.tmp 5) rfl ?_ ?_) r8 rfl;refine res_cellA (t:=4) (cs:=[S ((qR (1*tenI pl - 1*1) (1*tenI pl)).1),S ((qR (1*tenI pl - 1*1) (1*tenI pl)).2),S ([49]),S ([49])]) (b:=ao1.heap.size) (o:=0) U1032 rfl sz1032 ?_ ?_
 exact rfl;exact Blk.cells au2 (i:=0) rfl;exact res_tmp (t:=5) (by exact rfl) _
end Go.Proofs.YtonigegpknhdnaaGreatDoor
namespace Go.Proofs.YtonigegpknhdnaaGreatDoor
open Go Go.Eng Go.RowKit
def CellV (pl:Nat)(f c:Int) : Value:=.tuple #[.agg #[S (qR f (tenI pl)).1,S (qR f (tenI pl)).2,S (qR c (tenI pl)).1,S (qR c (tenI pl)).2],.int .i64 0]
def FindR (pl:Nat)(bd:Nat→Option (Int × Int))(f c:Int) : Prop:=
  c≤f+1∧((∃ r,bd 15=some r∧CellW 15 pl r f c) ∨ (∃ r r2 f1 c1,bd 15=some r∧CellW 15 pl r f1 c1∧f1+1<c1∧bd 40=some r2∧CellW 40 pl r2 f c))
theorem FindR.uniq {pl:Nat}{bd:Nat→Option (Int × Int)}{f c f' c' : Int}(h:FindR pl bd f c) (h' : FindR pl bd f' c') : f=f'∧c=c':=by
  obtain ⟨h1,⟨r,e,w⟩ | ⟨r,r2,f1,c1,e,w,n,e2,w2⟩⟩:=h <;> obtain ⟨h1',⟨r',e',w'⟩ | ⟨r',r2',f1',c1',e',w',n',e2',w2'⟩⟩:=h'
  · rw [e] at e'; cases e'; exact ⟨w.hf.symm.trans w'.hf,w.hc.symm.trans w'.hc⟩
  · rw [e] at e'; cases e'; have:=w.hf.symm.trans w'.hf; have:=w.hc.symm.trans w'.hc; omega
  · rw [e] at e'; cases e'; have:=w.hf.symm.trans w'.hf; have:=w.hc.symm.trans w'.hc; omega
  · rw [e2] at e2'; cases e2'; exact ⟨w2.hf.symm.trans w2'.hf,w2.hc.symm.trans w2'.hc⟩
theorem cell_find {l m l1 m1 l2 m2 l3 m3 l4 m4:List UInt8}{g:Nat}{lb:List Value}{a b la lb0 ha hb:Int}{pl:Nat}{w:World}{bd:Nat→Option (Int × Int)}{f c:Int}(hF:FindR pl bd f c)(e:(l,m)=qR a b)(h:Q9 a b)(ha12:a.natAbs<10 ^ 12)(hb12:b<10 ^ 12)(e1:(l1,m1)=qR la lb0)(q1:Q9 la lb0)(e2:(l2,m2)=qR ha hb)(q2:Q9 ha hb)(hrt:rightB pl a b la lb0 ha hb=true)(hp:pl≤12)(hne:¬ ((l,m) : R)=(l3,m3)) (hg:Enters Tryz.prog g)
    (hbd : ∀ k r,k≤40→bd k=some r→∀ W,Ext w W→Calls Tryz.prog g ([.agg #[.int .i64 ((pl+k:Nat) : Int),S (nS (10 ^ (pl+k)))],.agg #[S l,S m]].toArray ++ lb.toArray) W (Ret W fun v _=>v=.agg #[S (showI r.1),S (showI r.2)])) (ht:Tb w) :
    Calls Tryz.prog 77 #[.agg #[S l1,S m1,S l2,S m2,S l3,S m3,S l4,S m4,.func (.func g) #[] lb.toArray],.agg #[S l,S m],.int .i64 ((pl:Nat) : Int)] w (Ret w fun v _=>v=CellV pl f c):=by
  obtain ⟨h1,⟨r,er,w⟩ | ⟨r,r2,f1,c1,er,w,n,er2,w2⟩⟩:=hF
  · exact cell_ok e h ha12 hb12 e1 q1 e2 q2 hrt hp hne hg (hbd 15 r dc er) (w.r h1) ht
  · exact cell_two e h ha12 hb12 e1 q1 e2 q2 hrt hp hne hg (hbd 15 r dc er) (hbd 40 r2 dc er2) w n w2 h1 ht
theorem cell_at2 {l m l1 m1 l2 m2 l3 m3 l4 m4:List UInt8}{g:Nat}{lb:List Value}{a b la lb0 ha hb va vb f c:Int}{pl:Nat}{w:World}(hf:flI va vb (tenI pl)=f)(hc:clI va vb (tenI pl)=c)(e:(l,m)=qR a b)(h:Q9 a b)(ha12:a.natAbs<10 ^ 12)(hb12:b<10 ^ 12)(e1:(l1,m1)=qR la lb0)(q1:Q9 la lb0)(e2:(l2,m2)=qR ha hb)(q2:Q9 ha hb)(e4:(l4,m4)=qR va vb)(q4:Q9 va vb)(hrt:rightB pl a b la lb0 ha hb=true)(hp:pl≤12)(heq:((l,m) : R)=(l3,m3)) (ht:Tb w) :
    Calls Tryz.prog 77 #[.agg #[S l1,S m1,S l2,S m2,S l3,S m3,S l4,S m4,.func (.func g) #[] lb.toArray],.agg #[S l,S m],.int .i64 ((pl:Nat) : Int)] w (Ret w fun v _=>v=CellV pl f c):=by
  subst hf hc
  exact cell_at e h ha12 hb12 e1 q1 e2 q2 e4 q4 hrt hp heq ht
theorem rightB_ok {pl:Nat}{a b la lb ha hb:Int}(hp:pl≤12)(h1:la*b≤a*lb)(h2:a*hb≤ha*b) : rightB pl a b la lb ha hb=true:=by
  unfold rightB
  rw [decide_eq_true om,decide_eq_true (cmpI_swap0.2 h1),decide_eq_true (cmpI_nonpos.2 h2)]; rfl
theorem sc_pow {n:Nat}(h:n≤90) : Sc (10 ^ n):=⟨Nat.pow_pos dc,Nat.pow_lt_pow_right dc om⟩
theorem qR_ne {a b c d:Int}(hb:0<b)(hd:0<d){r:R}(e:r=qR c d)(h:a*d≠c*b) : ¬ (((qR a b).1,(qR a b).2) : R)=r:=fun x=>h (qR_inj hb hd (x.trans e))
theorem q9_12 {a b:Int}(ha:a.natAbs<10 ^ 12)(h0:0<b)(hb:b<10 ^ 12) : Q9 a b:=⟨Nat.lt_trans ha dc,h0,by omega⟩
section
variable {a b : Int} {pl : Nat} {f c : Int} {w : World}
theorem zero_q (hb:0<b)(h0:a=0) : (((qR a b).1,(qR a b).2) : R)=([48],[49]):=by
  have h:qR a b=qR 0 1:=qR_congr hb dc om
  rw [q01,← h]
end
section
variable {a b : Int} {pl : Nat} {f c : Int} {w : World}
def nrmBd (pl:Nat)(a b:Int)(k:Nat) : Option (Int × Int):=nrP (10 ^ (pl+k)) (pl+k) (redN a b) (redD a b).toNat
theorem nrm_right (hb:0<b)(h9:a.natAbs≤1000000*b.natAbs)(hp:pl≤12) : rightB pl a b (-10000000000000) 1 10000000000000 1=true:=rightB_ok hp om om
theorem normal_q (ha12:a.natAbs<10 ^ 12)(hb:0<b)(hb12:b<10 ^ 12)(h0:a≠0) (hlo : -8*b<a)(hhi:a<8*b)(hp:pl≤12)(hF:FindR pl (nrmBd pl a b) f c)(ht:Tb w) :
    Calls Tryz.prog 43 #[.agg #[S (qR a b).1,S (qR a b).2],.int .i64 ((pl:Nat) : Int)] w (Ret w fun v _=>v=CellV pl f c):=by
  have q:=q9_12 ha12 hb hb12
  have hrt:=nrm_right (a:=a) (pl:=pl) hb om hp
  refine Normal_ok rfl q ha12 hb12 hrt (cmpI_gt0 om) (cmpI_lt0 om) (fun W e=>cell_find (lb:=[]) hF rfl q ha12 hb12 qn13 q9n13 qp13 q9p13 hrt hp (qR_ne hb dc q01 om) en1051 ?_ (ht.ext e)) ht
  intro k r hk hr W' e'
  rw [qR_str hb]
  exact normal_ok (sc_pow om) om hr ((ht.ext e).ext e')
theorem normal_z (hb:0<b)(hb12:b<10 ^ 12)(h0:a=0)(hp:pl≤12)(ht:Tb w) :
    Calls Tryz.prog 43 #[.agg #[S (qR a b).1,S (qR a b).2],.int .i64 ((pl:Nat) : Int)] w (Ret w fun v _=>v=CellV pl (flI 1 2 (tenI pl)) (clI 1 2 (tenI pl))):=by
  have ha12:a.natAbs<10 ^ 12:=by subst h0; decide
  have q:=q9_12 ha12 hb hb12
  have hz:=zero_q hb h0
  have hrt:=nrm_right (a:=a) (pl:=pl) hb om hp
  have q2:Q9 1 2:=⟨by decide,by decide,by decide⟩
  refine Normal_ok rfl q ha12 hb12 hrt (cmpI_gt0 om) (cmpI_lt0 om) (fun W e=>?_) ht
  exact cell_at2 (lb:=[]) rfl rfl rfl q ha12 hb12 qn13 q9n13 qp13 q9p13 q12 q2 hrt hp hz (ht.ext e)
theorem neg_q (hb:0<b) : neg (qR a b).1=decide (a<0):=by
  show neg (showI (redN a b))=_
  rw [neg_showI]
  have h1:=rq_n (n:=a) hb
  have h2:=gcd_pos (n:=a) hb
  generalize ((Int.gcd a b:Nat) : Int)=g at *
  generalize redN a b=x at *
  subst h1
  by_cases h:x<0
  · rw [decide_eq_true h,decide_eq_true (Int.mul_neg_of_neg_of_pos h h2)]
  · rw [decide_eq_false h,decide_eq_false (by have:=Int.mul_nonneg (show 0≤x by omega) (Int.le_of_lt h2); omega)]
theorem normal_lo (ha12:a.natAbs<10 ^ 12)(hb:0<b)(hb12:b<10 ^ 12)(hlo:a≤-8*b)(h9:a.natAbs≤1000000*b.natAbs)(hp:pl≤12)(ht:Tb w) :
    Calls Tryz.prog 43 #[.agg #[S (qR a b).1,S (qR a b).2],.int .i64 ((pl:Nat) : Int)] w (Ret w fun v _=>v=CellV pl 0 1):=by
  have h:=Normal_lo (l:=(qR a b).1) (m:=(qR a b).2) rfl (q9_12 ha12 hb hb12) ha12 hb12 hp (nrm_right hb h9 hp) (cmpI_ngt om) ((neg_q hb).trans (decide_eq_true om)) ht
  have e:(([48],[49]) : R)=qR 0 (tenI pl):=q01.trans (qR_congr dc (ten_pos pl) om)
  rw [show ([48] : List UInt8)=(qR 0 (tenI pl)).1 from congrArg Prod.fst e,show ([49] : List UInt8)=(qR 0 (tenI pl)).2 from congrArg Prod.snd e] at h
  exact h
theorem normal_hi (ha12:a.natAbs<10 ^ 12)(hb:0<b)(hb12:b<10 ^ 12)(hhi:8*b≤a)(h9:a.natAbs≤1000000*b.natAbs)(hp:pl≤12)(ht:Tb w) :
    Calls Tryz.prog 43 #[.agg #[S (qR a b).1,S (qR a b).2],.int .i64 ((pl:Nat) : Int)] w (Ret w fun v _=>v=CellV pl (tenI pl - 1) (tenI pl)):=by
  have h:=Normal_hi (l:=(qR a b).1) (m:=(qR a b).2) rfl (q9_12 ha12 hb hb12) ha12 hb12 hp (nrm_right hb h9 hp) (cmpI_gt0 om) (cmpI_nlt om) ((neg_q hb).trans (decide_eq_false om)) ht
  have hT:=ten_pos pl
  have e:(([49],[49]) : R)=qR (tenI pl) (tenI pl):=q11.trans (qR_congr dc hT om)
  have e1:([49] : List UInt8)=(qR (tenI pl) (tenI pl)).1:=congrArg Prod.fst e
  have e2:([49] : List UInt8)=(qR (tenI pl) (tenI pl)).2:=congrArg Prod.snd e
  rw [Int.one_mul,Int.one_mul] at h
  unfold CellV
  rw [← e1,← e2]
  exact h
end
theorem ten_le60 {n:Nat}(h:n≤60) : tenI n≤10 ^ 60:=by
  unfold tenI
  have h1:(10:Nat) ^ n≤10 ^ 60:=Nat.pow_le_pow_right dc h
  have h2:(((10:Nat) ^ 60:Nat) : Int)=(10:Int) ^ 60:=by norm_cast
  omega
theorem cellW_ok (k pl:Nat){a b:Nat}(h1:a≤b)(h2:b≤1000000000000000000000000000000000000000000000000000000000000) :
    CellW k pl ((a:Int),(b:Int)) ((a / 10 ^ k:Nat) : Int) ((upn b (10 ^ k) : Nat) : Int)∧CellW k pl (-(b:Int),-(a:Int)) (-((upn b (10 ^ k) : Nat) : Int)) (-((a / 10 ^ k:Nat) : Int)):=by
  have hp:0<10 ^ k:=Nat.pow_pos dc
  have f1:a / 10 ^ k≤a:=Nat.div_le_self _ _
  have f2:upn b (10 ^ k)≤b:=upn_le hp
  have hle:a / 10 ^ k≤upn b (10 ^ k):=by rw [upn_eq hp]; exact Nat.div_le_div_right om
  have l1:(1000000000000000000000000000000000000000000000000000000000000:Nat)<10 ^ 70:=by decide
  have l2:(1000000000000000000000000000000000000000000000000000000000000:Nat)<10 ^ 90:=by decide
  generalize he:a / 10 ^ k=f at *
  generalize hu:upn b (10 ^ k)=c at *
  refine ⟨⟨by simp only; omega,by simp only; omega,by simp only; omega,by rw [← he]; exact fl_n,by rw [← hu]; exact cl_n,by omega,by omega,by omega⟩,⟨by simp only; omega,by simp only; omega,by simp only; omega,?_,?_,by omega,by omega,by omega⟩⟩
  · rw [flI_neg (ten_pos _)]; simp only [cl_n,hu]
  · rw [clI_neg (ten_pos _)]; simp only [fl_n,he]
theorem cellW_shift {k pl:Nat}{a b f c:Nat}(h:CellW k pl (-(b:Int),-(a:Int)) (-(c:Int)) (-(f:Int)))(hp:pl+k≤60) : CellW k pl (tenI (pl+k) - (b:Int),tenI (pl+k) - (a:Int)) (tenI pl - (c:Int)) (tenI pl - (f:Int)):=by
  obtain ⟨b1,b2,le,hf,hc,_,_,_⟩:=h
  have hS:tenI (pl+k)≤10 ^ 60:=ten_le60 hp
  have hS0:=ten_pos (pl+k)
  have hT0:=ten_pos pl
  have hT:tenI pl≤10 ^ 60:=ten_le60 om
  simp only at b1 b2 le hf hc
  refine ⟨by simp only; omega,by simp only; omega,by simp only; omega,?_,?_,by omega,by omega,by omega⟩
  · simp only
    unfold flI at *
    rw [show tenI (pl+k) - (b:Int) = -(b:Int)+tenI (pl+k) by omega,Int.add_mul,Int.add_mul_ediv_left _ _ om,hf]
    omega
  · simp only
    unfold clI at *
    rw [show tenI (pl+k) - (a:Int) = -(a:Int)+tenI (pl+k) by omega,Int.add_mul,Int.add_mul_ediv_left _ _ om,Int.add_mul_emod_self_left]
    split at hc
    · rename_i h0; rw [if_pos h0]; omega
    · rename_i h0; rw [if_neg h0]; omega
def nrB (pl:Nat) (N:Int)(d:Nat)(k:Nat) : Option (Int × Int):=nrP (10 ^ (pl+k)) (pl+k) N d
def PosR (pl n d f c:Nat) : Prop:=0<n∧FindR pl (nrB pl (n:Int) d) (f:Int) (c:Int)∧FindR pl (nrB pl (-(n:Int)) d) (tenI pl - c) (tenI pl - f)
theorem nr_half {S H pl n d:Nat}{h:N2}(hn:0<n)(hH:S=2*H)(hh:hnP S pl n d=some h) : nrP S pl (n:Int) d=some (((H+h.1:Nat) : Int),((H+h.2:Nat) : Int))∧nrP S pl (-(n:Int)) d=some ((S:Int) - ((H+h.2:Nat) : Int),(S:Int) - ((H+h.1:Nat) : Int)):=by
  have hof:ofP S 1 2=(H,H):=by
    unfold ofP
    rw [upn_eq dc,Nat.one_mul,hH,Nat.mul_div_cancel_left _ dc]
    congr 1
    omega
  unfold nrP
  constructor
  · rw [show ((n:Int)).natAbs=n from rfl,hh,Option.map_some,if_neg om,hof]; rfl
  · rw [show (-(n : Int)).natAbs = n by omega, hh, Option.map_some, if_pos om, hof]
    unfold miP
    simp only []
    rw [show (H:Int) - (h.2:Int)=(S:Int) - ((H+h.2:Nat) : Int) by omega,show (H:Int) - (h.1:Int)=(S:Int) - ((H+h.1:Nat) : Int) by omega]
theorem round_half {k pl H n d:Nat}{h:N2}(hn:0<n)(hp:pl+k≤60)(hH:10 ^ (pl+k)=2*H)(hh:hnP (10 ^ (pl+k)) (pl+k) n d=some h)(h1:H+h.1≤H+h.2)(h2:H+h.2≤1000000000000000000000000000000000000000000000000000000000000) :
    ∃ r s,nrB pl (n:Int) d k=some r∧CellW k pl r (((H+h.1) / 10 ^ k:Nat) : Int) ((upn (H+h.2) (10 ^ k) : Nat) : Int)∧nrB pl (-(n:Int)) d k=some s∧CellW k pl s (tenI pl - ((upn (H+h.2) (10 ^ k) : Nat) : Int)) (tenI pl - (((H+h.1) / 10 ^ k:Nat) : Int)):=by
  obtain ⟨e1,e2⟩:=nr_half hn hH hh
  obtain ⟨c1,c2⟩:=cellW_ok k pl h1 h2
  refine ⟨_,_,e1,c1,e2,?_⟩
  have e:((10 ^ (pl+k) : Nat) : Int)=tenI (pl+k):=rfl
  rw [e]
  exact cellW_shift c2 hp
theorem p40:(10:Nat) ^ 40=10000000000000000000000000000000000000000:=by decide +kernel
def nmCk2 (S S1 H c1 c2 S' S1' H' c1' c2' : Nat) (n d : Nat) (K : Nat → Nat → Bool) : Bool := hnK S S1 c1 c2 (fun r1 r2 => fz (Nat.add H r1) fun a => fz (Nat.add H r2) fun b =>
  cond (and (Nat.ble a b) (Nat.ble b 1000000000000000000000000000000000000000000000000000000000000)) (fz (Nat.div a 1000000000000000) fun f => fz (Nat.div (Nat.add b (Nat.pred 1000000000000000)) 1000000000000000) fun c => cond (Nat.ble c (Nat.succ f)) (K f c)
    (hnK S' S1' c1' c2' (fun r1 r2=>fz (Nat.add H' r1) fun a=>fz (Nat.add H' r2) fun b=>cellK 10000000000000000000000000000000000000000 a b K) n d)) false) n d
theorem nmCk2_ok {S S1 H S' S1' H' pl n d:Nat} {c c' : N2} {K:Nat→Nat→Bool} (hp:pl≤12) (hS:S=10 ^ (pl+15)) (h1:S1=S - 1) (hH:S=2*H) (hc:rootP S (byP (piN (pl+15),piN (pl+15)+1) 2 1)=some c) (hcb:bdB c=true)
    (hS' : S'=10 ^ (pl+40)) (h1' : S1'=S' - 1) (hH' : S'=2*H') (hc' : rootP S' (byP (piN (pl+40),piN (pl+40)+1) 2 1)=some c') (hcb' : bdB c'=true) (hn:0<n) (hd:0<d) (hk:nmCk2 S S1 H c.1 c.2 S' S1' H' c'.1 c'.2 n d K=true) : ∃ f g,PosR pl n d f g∧K f g=true:=by
  have hS0:0<S:=by rw [hS]; exact Nat.pow_pos dc
  have hS0' : 0<S':=by rw [hS']; exact Nat.pow_pos dc
  obtain ⟨h,hh,hq⟩:=hnK_ok hS0 h1 hc hcb hd hk
  clear hk
  have hk:=hq
  clear hq
  rw [fz_eq,fz_eq] at hk
  rcases cond_t hk with ⟨h2,hk⟩ | ⟨_,hk⟩
  · simp only [Bool.and_eq_true, Nat.ble_eq] at h2
    obtain ⟨h2,h3⟩:=h2
    simp only [fz_eq] at hk
    subst hS
    obtain ⟨r,s,e1,w1,e2,w2⟩:=round_half (k:=15) hn om hH hh h2 h3
    have e3:Nat.div (Nat.add H h.1) 1000000000000000=(H+h.1) / 10 ^ 15:=rfl
    have e4:Nat.div (Nat.add (Nat.add H h.2) (Nat.pred 1000000000000000)) 1000000000000000=upn (H+h.2) (10 ^ 15):=by rw [upn_eq dc]; rfl
    rw [e3,e4] at hk
    rcases cond_t hk with ⟨h4,hk⟩ | ⟨h4,hk⟩
    · rw [Nat.ble_eq] at h4
      refine ⟨(H+h.1) / 10 ^ 15,upn (H+h.2) (10 ^ 15),⟨hn,⟨by omega,Or.inl ⟨r,e1,w1⟩⟩,⟨by omega,Or.inl ⟨s,e2,w2⟩⟩⟩,hk⟩
    · have h5 : (H + h.1) / 10 ^ 15 + 1 < upn (H + h.2) (10 ^ 15) := by
        rcases Nat.lt_or_ge ((H+h.1) / 10 ^ 15+1) (upn (H+h.2) (10 ^ 15)) with x | x
        · exact x
        · rw [show Nat.ble (upn (H+h.2) (10 ^ 15)) (Nat.succ ((H+h.1) / 10 ^ 15))=true from Nat.ble_eq_true_of_le x] at h4; cases h4
      obtain ⟨h',hh',hk⟩:=hnK_ok hS0' h1' hc' hcb' hd hk
      unfold cellK at hk
      rcases cond_t hk with ⟨h6,hk⟩ | ⟨_,hk⟩
      · simp only [Bool.and_eq_true, Nat.ble_eq] at h6
        obtain ⟨h6,h7⟩:=h6
        simp only [fz_eq] at hk
        rcases cond_t hk with ⟨h8,hk⟩ | ⟨_,hk⟩
        · rw [Nat.ble_eq] at h8
          have hH2:10 ^ (pl+40)=2*H':=by rw [← hS']; exact hH'
          have hh2:hnP (10 ^ (pl+40)) (pl+40) n d=some h':=by rw [← hS']; exact hh'
          obtain ⟨r',s',e1',w1',e2',w2'⟩:=round_half (k:=40) hn om hH2 hh2 h6 h7
          have e5:Nat.div (Nat.add H' h'.1) 10000000000000000000000000000000000000000=(H'+h'.1) / 10 ^ 40:=by rw [p40]; rfl
          have e6:Nat.div (Nat.add (Nat.add H' h'.2) (Nat.pred 10000000000000000000000000000000000000000)) 10000000000000000000000000000000000000000=upn (H'+h'.2) (10 ^ 40):=by rw [p40,upn_eq dc]; rfl
          rw [e5,e6] at hk h8
          refine ⟨(H'+h'.1) / 10 ^ 40,upn (H'+h'.2) (10 ^ 40),⟨hn,⟨by omega,Or.inr ⟨r,r',_,_,e1,w1,by omega,e1',w1'⟩⟩,⟨by omega,Or.inr ⟨s,s',_,_,e2,w2,by omega,e2',w2'⟩⟩⟩,hk⟩
        · cases hk
      · cases hk
  · cases hk
def CkR (pl:Nat)(ck:Nat→Nat→(Nat→Nat→Bool)→Bool) : Prop:=∀ n d K,0<n→0<d→ck n d K=true→∃ f c,PosR pl n d f c∧K f c=true
def stK (ck:Nat→Nat→(Nat→Nat→Bool)→Bool) (T p:Nat) (K:Nat→Nat→Bool)(n d lo hi:Nat) : Bool:=
  ck n d fun f c=>cond (and (Nat.ble T (Nat.mul 2 f)) (Nat.ble c T)) (fz (Nat.mul f p) fun f8=>fz (Nat.mul c p) fun c8=>fz (cond (Nat.ble lo f8) f8 lo) fun l=>fz (cond (Nat.ble c8 hi) c8 hi) fun h=>K l h) false
def CelR (pl p n d lo hi:Nat) : Prop:=∃ f c,PosR pl n d f c∧10 ^ pl≤2*f∧c≤10 ^ pl∧f*p≤lo∧hi≤c*p
theorem stK_ok {ck:Nat→Nat→(Nat→Nat→Bool)→Bool}{pl T p n d lo hi:Nat}{K:Nat→Nat→Bool}(hc:CkR pl ck)(hT:T=10 ^ pl)(hn:0<n)(hd:0<d)(h:stK ck T p K n d lo hi=true) : ∃ l h,lo≤l∧h≤hi∧CelR pl p n d l h∧K l h=true:=by
  obtain ⟨f,c,hP,hk⟩:=hc n d _ hn hd h
  rcases cond_t hk with ⟨h1,hk⟩ | ⟨_,hk⟩
  · simp only [Bool.and_eq_true, Nat.ble_eq] at h1
    obtain ⟨h1,h2⟩:=h1
    rw [fz_eq,fz_eq,fz_eq,fz_eq] at hk
    have e1 : ∀ {x y:Nat},x≤cond (Nat.ble x y) y x∧y≤cond (Nat.ble x y) y x:=by
      intro x y
      cases hb:Nat.ble x y
      · have : ¬ x ≤ y := fun e => by rw [Nat.ble_eq_true_of_le e] at hb; cases hb
        exact ⟨Nat.le_refl _,by show y≤x; omega⟩
      · exact ⟨Nat.le_of_ble_eq_true hb,Nat.le_refl _⟩
    have e2 : ∀ {x y:Nat},cond (Nat.ble x y) x y≤x∧cond (Nat.ble x y) x y≤y:=by
      intro x y
      cases hb:Nat.ble x y
      · have : ¬ x ≤ y := fun e => by rw [Nat.ble_eq_true_of_le e] at hb; cases hb
        exact ⟨by show y≤x; omega,Nat.le_refl _⟩
      · exact ⟨Nat.le_refl _,Nat.le_of_ble_eq_true hb⟩
    refine ⟨_,_,e1.1,e2.2,⟨f,c,hP,by rw [← hT]; exact h1,by rw [← hT]; exact h2,e1.2,e2.1⟩,hk⟩
  · cases hk
theorem CelR.weak {pl p n d lo hi lo' hi' : Nat}(h:CelR pl p n d lo hi)(h1:lo≤lo')(h2:hi'≤hi) : CelR pl p n d lo' hi':=by
  obtain ⟨f,c,a,b,e,g,k⟩:=h
  exact ⟨f,c,a,b,e,by omega,by omega⟩
theorem nmc1:rootP 10000000000000000 (byP (piN 16,piN 16+1) 2 1)=some (25066282746310004,25066282746310006):=by decide +kernel
theorem nmd1:rootP 100000000000000000000000000000000000000000 (byP (piN 41,piN 41+1) 2 1)=some (250662827463100050241576528481104525300698,250662827463100050241576528481104525300699):=by decide +kernel
def nmk1:Nat→Nat→(Nat→Nat→Bool)→Bool:=nmCk2 10000000000000000 9999999999999999 5000000000000000 25066282746310004 25066282746310006 100000000000000000000000000000000000000000 99999999999999999999999999999999999999999 50000000000000000000000000000000000000000 250662827463100050241576528481104525300698 250662827463100050241576528481104525300699
theorem nmo1:CkR 1 nmk1:=fun n d K h1 h2 hk=>nmCk2_ok dc (by decide +kernel) (by decide +kernel) (by decide +kernel) nmc1 (by decide +kernel) (by decide +kernel) (by decide +kernel) (by decide +kernel) nmd1 (by decide +kernel) h1 h2 hk
theorem nmc2:rootP 100000000000000000 (byP (piN 17,piN 17+1) 2 1)=some (250662827463100049,250662827463100051):=by decide +kernel
theorem nmd2:rootP 1000000000000000000000000000000000000000000 (byP (piN 42,piN 42+1) 2 1)=some (2506628274631000502415765284811045253006986,2506628274631000502415765284811045253006987):=by decide +kernel
def nmk2:Nat→Nat→(Nat→Nat→Bool)→Bool:=nmCk2 100000000000000000 99999999999999999 50000000000000000 250662827463100049 250662827463100051 1000000000000000000000000000000000000000000 999999999999999999999999999999999999999999 500000000000000000000000000000000000000000 2506628274631000502415765284811045253006986 2506628274631000502415765284811045253006987
theorem nmo2:CkR 2 nmk2:=fun n d K h1 h2 hk=>nmCk2_ok dc (by decide +kernel) (by decide +kernel) (by decide +kernel) nmc2 (by decide +kernel) (by decide +kernel) (by decide +kernel) (by decide +kernel) nmd2 (by decide +kernel) h1 h2 hk
theorem nmc3:rootP 1000000000000000000 (byP (piN 18,piN 18+1) 2 1)=some (2506628274631000502,2506628274631000503):=by decide +kernel
theorem nmd3:rootP 10000000000000000000000000000000000000000000 (byP (piN 43,piN 43+1) 2 1)=some (25066282746310005024157652848110452530069867,25066282746310005024157652848110452530069868):=by decide +kernel
def nmk3:Nat→Nat→(Nat→Nat→Bool)→Bool:=nmCk2 1000000000000000000 999999999999999999 500000000000000000 2506628274631000502 2506628274631000503 10000000000000000000000000000000000000000000 9999999999999999999999999999999999999999999 5000000000000000000000000000000000000000000 25066282746310005024157652848110452530069867 25066282746310005024157652848110452530069868
theorem nmo3:CkR 3 nmk3:=fun n d K h1 h2 hk=>nmCk2_ok dc (by decide +kernel) (by decide +kernel) (by decide +kernel) nmc3 (by decide +kernel) (by decide +kernel) (by decide +kernel) (by decide +kernel) nmd3 (by decide +kernel) h1 h2 hk
theorem nmc4:rootP 10000000000000000000 (byP (piN 19,piN 19+1) 2 1)=some (25066282746310005023,25066282746310005025):=by decide +kernel
theorem nmd4:rootP 100000000000000000000000000000000000000000000 (byP (piN 44,piN 44+1) 2 1)=some (250662827463100050241576528481104525300698673,250662827463100050241576528481104525300698675):=by decide +kernel
def nmk4:Nat→Nat→(Nat→Nat→Bool)→Bool:=nmCk2 10000000000000000000 9999999999999999999 5000000000000000000 25066282746310005023 25066282746310005025 100000000000000000000000000000000000000000000 99999999999999999999999999999999999999999999 50000000000000000000000000000000000000000000 250662827463100050241576528481104525300698673 250662827463100050241576528481104525300698675
theorem nmo4:CkR 4 nmk4:=fun n d K h1 h2 hk=>nmCk2_ok dc (by decide +kernel) (by decide +kernel) (by decide +kernel) nmc4 (by decide +kernel) (by decide +kernel) (by decide +kernel) (by decide +kernel) nmd4 (by decide +kernel) h1 h2 hk
theorem nmc5:rootP 100000000000000000000 (byP (piN 20,piN 20+1) 2 1)=some (250662827463100050241,250662827463100050242):=by decide +kernel
theorem nmd5:rootP 1000000000000000000000000000000000000000000000 (byP (piN 45,piN 45+1) 2 1)=some (2506628274631000502415765284811045253006986740,2506628274631000502415765284811045253006986741):=by decide +kernel
def nmk5:Nat→Nat→(Nat→Nat→Bool)→Bool:=nmCk2 100000000000000000000 99999999999999999999 50000000000000000000 250662827463100050241 250662827463100050242 1000000000000000000000000000000000000000000000 999999999999999999999999999999999999999999999 500000000000000000000000000000000000000000000 2506628274631000502415765284811045253006986740 2506628274631000502415765284811045253006986741
theorem nmo5:CkR 5 nmk5:=fun n d K h1 h2 hk=>nmCk2_ok dc (by decide +kernel) (by decide +kernel) (by decide +kernel) nmc5 (by decide +kernel) (by decide +kernel) (by decide +kernel) (by decide +kernel) nmd5 (by decide +kernel) h1 h2 hk
theorem nmc6:rootP 1000000000000000000000 (byP (piN 21,piN 21+1) 2 1)=some (2506628274631000502415,2506628274631000502416):=by decide +kernel
theorem nmd6:rootP 10000000000000000000000000000000000000000000000 (byP (piN 46,piN 46+1) 2 1)=some (25066282746310005024157652848110452530069867405,25066282746310005024157652848110452530069867407):=by decide +kernel
def nmk6:Nat→Nat→(Nat→Nat→Bool)→Bool:=nmCk2 1000000000000000000000 999999999999999999999 500000000000000000000 2506628274631000502415 2506628274631000502416 10000000000000000000000000000000000000000000000 9999999999999999999999999999999999999999999999 5000000000000000000000000000000000000000000000 25066282746310005024157652848110452530069867405 25066282746310005024157652848110452530069867407
theorem nmo6:CkR 6 nmk6:=fun n d K h1 h2 hk=>nmCk2_ok dc (by decide +kernel) (by decide +kernel) (by decide +kernel) nmc6 (by decide +kernel) (by decide +kernel) (by decide +kernel) (by decide +kernel) nmd6 (by decide +kernel) h1 h2 hk
theorem nmc7:rootP 10000000000000000000000 (byP (piN 22,piN 22+1) 2 1)=some (25066282746310005024157,25066282746310005024158):=by decide +kernel
theorem nmd7:rootP 100000000000000000000000000000000000000000000000 (byP (piN 47,piN 47+1) 2 1)=some (250662827463100050241576528481104525300698674060,250662827463100050241576528481104525300698674062):=by decide +kernel
def nmk7:Nat→Nat→(Nat→Nat→Bool)→Bool:=nmCk2 10000000000000000000000 9999999999999999999999 5000000000000000000000 25066282746310005024157 25066282746310005024158 100000000000000000000000000000000000000000000000 99999999999999999999999999999999999999999999999 50000000000000000000000000000000000000000000000 250662827463100050241576528481104525300698674060 250662827463100050241576528481104525300698674062
theorem nmo7:CkR 7 nmk7:=fun n d K h1 h2 hk=>nmCk2_ok dc (by decide +kernel) (by decide +kernel) (by decide +kernel) nmc7 (by decide +kernel) (by decide +kernel) (by decide +kernel) (by decide +kernel) nmd7 (by decide +kernel) h1 h2 hk
theorem nmc8:rootP 100000000000000000000000 (byP (piN 23,piN 23+1) 2 1)=some (250662827463100050241576,250662827463100050241577):=by decide +kernel
theorem nmd8:rootP 1000000000000000000000000000000000000000000000000 (byP (piN 48,piN 48+1) 2 1)=some (2506628274631000502415765284811045253006986740609,2506628274631000502415765284811045253006986740611):=by decide +kernel
def nmk8:Nat→Nat→(Nat→Nat→Bool)→Bool:=nmCk2 100000000000000000000000 99999999999999999999999 50000000000000000000000 250662827463100050241576 250662827463100050241577 1000000000000000000000000000000000000000000000000 999999999999999999999999999999999999999999999999 500000000000000000000000000000000000000000000000 2506628274631000502415765284811045253006986740609 2506628274631000502415765284811045253006986740611
theorem nmo8:CkR 8 nmk8:=fun n d K h1 h2 hk=>nmCk2_ok dc (by decide +kernel) (by decide +kernel) (by decide +kernel) nmc8 (by decide +kernel) (by decide +kernel) (by decide +kernel) (by decide +kernel) nmd8 (by decide +kernel) h1 h2 hk
def cel8 (n d:Nat) (K:Nat→Nat→Bool) : Bool:=(stK nmk1 10 10000000 (fun l h=>(stK nmk2 100 1000000 (fun l h=>(stK nmk3 1000 100000 (fun l h=>(stK nmk4 10000 10000 (fun l h=>(stK nmk5 100000 1000 (fun l h=>(stK nmk6 1000000 100 (fun l h=>(stK nmk7 10000000 10 (fun l h=>(stK nmk8 100000000 1 K n d) l h) n d) l h) n d) l h) n d) l h) n d) l h) n d) l h) n d) l h) n d) 0 100000000
def All8 (n d lo hi:Nat) : Prop:=CelR 1 10000000 n d lo hi∧CelR 2 1000000 n d lo hi∧CelR 3 100000 n d lo hi∧CelR 4 10000 n d lo hi∧CelR 5 1000 n d lo hi∧CelR 6 100 n d lo hi∧CelR 7 10 n d lo hi∧CelR 8 1 n d lo hi
theorem cel8_ok {n d:Nat}{K:Nat→Nat→Bool}(hn:0<n)(hd:0<d)(h:cel8 n d K=true) : ∃ lo hi,All8 n d lo hi∧K lo hi=true:=by
  unfold cel8 at h
  obtain ⟨_,_,_,_,c1,h⟩:=stK_ok nmo1 dc hn hd h
  obtain ⟨_,_,_,_,c2,h⟩:=stK_ok nmo2 dc hn hd h
  obtain ⟨_,_,_,_,c3,h⟩:=stK_ok nmo3 dc hn hd h
  obtain ⟨_,_,_,_,c4,h⟩:=stK_ok nmo4 dc hn hd h
  obtain ⟨_,_,_,_,c5,h⟩:=stK_ok nmo5 dc hn hd h
  obtain ⟨_,_,_,_,c6,h⟩:=stK_ok nmo6 dc hn hd h
  obtain ⟨_,_,_,_,c7,h⟩:=stK_ok nmo7 dc hn hd h
  obtain ⟨l8,h8,_,_,c8,h⟩:=stK_ok nmo8 dc hn hd h
  exact ⟨l8,h8,⟨c1.weak om om,c2.weak om om,c3.weak om om,c4.weak om om,c5.weak om om,c6.weak om om,c7.weak om om,c8.weak om om⟩,h⟩
theorem All8.at {n d lo hi pl:Nat}(h:All8 n d lo hi)(h1:1≤pl)(h2:pl≤8) : CelR pl (10 ^ (8 - pl)) n d lo hi:=by
  obtain ⟨a1,a2,a3,a4,a5,a6,a7,a8⟩:=h
  rcases (by omega:pl=1 ∨ pl=2 ∨ pl=3 ∨ pl=4 ∨ pl=5 ∨ pl=6 ∨ pl=7 ∨ pl=8) with rfl | rfl | rfl | rfl | rfl | rfl | rfl | rfl
  · exact a1
  · exact a2
  · exact a3
  · exact a4
  · exact a5
  · exact a6
  · exact a7
  · exact a8
def valK (u:Nat) (K:Nat→Nat→Bool) : Bool:=fz (Nat.gcd u 1000000) fun g=>fz (Nat.div u g) fun n=>fz (Nat.div 1000000 g) fun d=>cel8 n d K
def Cel (pl u f c:Nat) : Prop:=FindR pl (nrmBd pl (u:Int) 1000000) (f:Int) (c:Int)∧FindR pl (nrmBd pl (-(u:Int)) 1000000) (tenI pl - c) (tenI pl - f)∧10 ^ pl≤2*f∧c≤10 ^ pl
theorem red_negs {N D:Int}(hD:0<D) : redN (-N) D = -redN N D∧redD (-N) D=redD N D:=by
  have h:=red_uniq (a:=redN (-N) D) (b:=redD (-N) D) (c:=-redN N D) (d:=redD N D) (rq_pos hD) (rq_pos hD) (rq_gcd hD) (by rw [Int.neg_gcd]; exact rq_gcd hD) ?_
  · exact h
  · have h1 := rq_cross (n := -N) hD
    have h2:=rq_cross (n:=N) hD
    have h3:redN (-N) D*redD N D*D = -redN N D*redD (-N) D*D:=by
      rw [show redN (-N) D*redD N D*D=redN (-N) D*D*redD N D by grind,h1,show -redN N D*redD (-N) D*D = -(redN N D*D)*redD (-N) D by grind,h2]
      grind
    exact Int.eq_of_mul_eq_mul_right om h3
theorem redn_nat {u d:Nat}(hd:0<d) : redN (u:Int) (d:Int)=((u / Nat.gcd u d:Nat) : Int)∧(redD (u:Int) (d:Int)).toNat=d / Nat.gcd u d:=by
  unfold redN redD
  rw [if_neg om,if_neg om,show Int.gcd (u:Int) (d:Int)=Nat.gcd u d from rfl]
  constructor
  · rw [Int.natCast_ediv]
  · rw [← Int.natCast_ediv]; rfl
theorem posR_cel {pl u d f c:Nat}(hd:0<d)(h:PosR pl (u / Nat.gcd u d) (d / Nat.gcd u d) f c) : FindR pl (nrmBd pl (u:Int) (d:Int)) (f:Int) (c:Int)∧FindR pl (nrmBd pl (-(u:Int)) (d:Int)) (tenI pl - c) (tenI pl - f):=by
  obtain ⟨_,h1,h2⟩:=h
  obtain ⟨e1,e2⟩:=redn_nat (u:=u) hd
  obtain ⟨e3,e4⟩:=red_negs (N:=(u:Int)) (D:=(d:Int)) om
  have x1:nrmBd pl (u:Int) (d:Int)=nrB pl ((u / Nat.gcd u d:Nat) : Int) (d / Nat.gcd u d):=funext fun k=>by unfold nrmBd nrB; rw [e1,e2]
  have x2:nrmBd pl (-(u:Int)) (d:Int)=nrB pl (-((u / Nat.gcd u d:Nat) : Int)) (d / Nat.gcd u d):=funext fun k=>by unfold nrmBd nrB; rw [e3,e4,e1,e2]
  rw [x1,x2]; exact ⟨h1,h2⟩
theorem valK_ok {u:Nat}{K:Nat→Nat→Bool}(hu:0<u)(h:valK u K=true) : ∃ lo hi,(∀ pl,1≤pl→pl≤8→∃ f c,Cel pl u f c∧f*10 ^ (8 - pl)≤lo∧hi≤c*10 ^ (8 - pl))∧K lo hi=true:=by
  unfold valK at h
  rw [fz_eq,fz_eq,fz_eq] at h
  have hg:0<Nat.gcd u 1000000:=Nat.gcd_pos_of_pos_left _ hu
  have hn:0<u / Nat.gcd u 1000000:=Nat.div_pos (Nat.le_of_dvd hu (Nat.gcd_dvd_left _ _)) hg
  have hd:0<1000000 / Nat.gcd u 1000000:=Nat.div_pos (Nat.le_of_dvd dc (Nat.gcd_dvd_right _ _)) hg
  obtain ⟨lo,hi,ha,hk⟩:=cel8_ok hn hd h
  refine ⟨lo,hi,fun pl h1 h2=>?_,hk⟩
  obtain ⟨f,c,a,b,e,g,k⟩:=ha.at h1 h2
  obtain ⟨r1,r2⟩:=posR_cel dc a
  exact ⟨f,c,⟨r1,r2,b,e⟩,g,k⟩
def anyN (ck:Nat→Bool)(n:Nat) : Bool:=Nat.rec (motive:=fun _=>Bool) false (fun m ih=>cond (ck (Nat.succ m)) true ih) n
theorem anyN_ok {ck:Nat→Bool} : ∀ {n i:Nat},1≤i→i≤n→ck i=true→anyN ck n=true
  | 0,i,h1,h2,_=>by omega
  | n + 1, i, h1, h2, h => by
    change cond (ck (n+1)) true (anyN ck n)=true
    by_cases e:i=n+1
    · subst e; rw [h]; rfl
    · cases ck (n + 1)
      · exact anyN_ok h1 om h
      · rfl
def prodB (K:Nat) : Bool:=anyN (fun W=>and (Nat.beq (Nat.mod K W) 0) (Nat.ble (Nat.div K W) 50)) 40
theorem prodB_ok {W D:Nat}(h1:1≤W)(h2:W≤40)(h3:D≤50) : prodB (W*D)=true:=by
  refine anyN_ok h1 h2 ?_
  rw [show Nat.mod (W*D) W=0 from Nat.mul_mod_right _ _,show Nat.div (W*D) W=D from Nat.mul_div_cancel_left _ om,Nat.ble_eq_true_of_le h3]; rfl
def rowK (pk:Nat→Nat→Bool) (S lo n:Nat) : Bool:=allN (fun i=>fz (Nat.add lo i) fun K=>cond (Nat.ble (Nat.mul 160 S) K) true (cond (Nat.beq (Nat.gcd K S) 1) (cond (prodB K) (pk S K) true) true)) n
theorem rowK_ok {pk:Nat→Nat→Bool}{S lo n K:Nat}(h:rowK pk S lo n=true)(h1:lo<K)(h2:K≤lo+n)(h3:K<160*S)(h4:Nat.gcd K S=1)(h5:prodB K=true) : pk S K=true:=by
  have h6:=allN_ok h (K - lo) om om
  rw [fz_eq,show Nat.add lo (K - lo)=K by show lo+(K - lo)=K; omega] at h6
  rcases cond_t h6 with ⟨h7,_⟩ | ⟨_,h6⟩
  · have := Nat.le_of_ble_eq_true h7
    exact absurd (show 160*S≤K from this) om
  · rw [h4] at h6
    rcases cond_t h6 with ⟨_,h6⟩ | ⟨h7,_⟩
    · rw [h5] at h6; exact h6
    · cases h7
def Rng (pk:Nat→Nat→Bool) (S m:Nat) : Prop:=∀ K,0<K→K≤m→K<160*S→Nat.gcd K S=1→prodB K=true→pk S K=true
theorem Rng.zero {pk:Nat→Nat→Bool}{S:Nat} : Rng pk S 0:=fun K h1 h2=>by omega
theorem Rng.next {pk : Nat → Nat → Bool} {S m n : Nat} (h : Rng pk S m) (h2 : rowK pk S m n = true) : Rng pk S (m + n) := fun K a b c d e => by
  by_cases h3:K≤m
  · exact h K a h3 c d e
  · exact rowK_ok h2 om b c d e
end Go.Proofs.YtonigegpknhdnaaGreatDoor
namespace Go.Proofs.YtonigegpknhdnaaGreatDoor
open Go Go.Eng Go.RowKit
attribute [local irreducible] wpListIn Code.wpIn Oper.wpIn Exit.then Exit.inBlock Exit.noGoto
set_option maxHeartbeats 40000000
end Go.Proofs.YtonigegpknhdnaaGreatDoor
namespace Go.Eng
open Go Go.RowKit
def nthO:List (Option (Nat × Value))→Nat→Option (Option (Nat × Value))
  | [],_=>none
  | x :: _,0=>some x
  | _ :: l,i+1=>nthO l i
def VL (L:List (Option (Nat × Value)))(ls:Nat→Bool)(e:Nat→Value) : Prop:=∀ i d v,nthO L i=some (some (d,v))→ls i=true→e d=v
def eqO:Option Nat→Nat→Bool
  | none,_=>false
  | some a,b=>Nat.beq a b
def ndO:List Oper→Bool
  | []=>true
  | o :: l=>(match o.dst with | none=>true | some d=>l.all fun p=>!eqO p.dst d) && ndO l
def mtB:List Oper→List (Option (Nat × Value))→Bool
  | _,[]=>true
  | [],_ :: _=>false
  | o :: os,x :: xs=>(match x with | none=>true | some y=>eqO o.dst y.1) && mtB os xs
def inD (D:List Nat)(l:List Oper) : Bool:=l.all fun o=>match o.dst with | none=>true | some d=>inB D d
theorem eqO_iff {o:Option Nat}{d:Nat} : eqO o d=true ↔ o=some d:=by
  cases o with
  | none=>simp [eqO]
  | some a=>simp only [eqO,Option.some.injEq]; exact ⟨Nat.eq_of_beq_eq_true,fun h=>by subst h; simp⟩
theorem ndO_get : ∀ {l:List Oper} {i j d:Nat} {o p:Oper},ndO l=true→l[i]?=some o→l[j]?=some p→o.dst=some d→p.dst=some d→i=j
  | [],i,_,_,_,_,_,h,_,_,_=>by simp at h
  | q :: l,0,0,_,_,_,_,_,_,_,_=>rfl
  | q :: l, 0, j + 1, d, o, p, h, ho, hp, hd, he => by
    simp at ho; subst ho
    simp only [ndO,hd,Bool.and_eq_true] at h
    have:=List.all_eq_true.1 h.1 p (List.mem_of_getElem? (by simpa using hp))
    rw [eqO_iff.2 he] at this; cases this
  | q :: l, i + 1, 0, d, o, p, h, ho, hp, hd, he => by
    simp at hp; subst hp
    simp only [ndO,he,Bool.and_eq_true] at h
    have:=List.all_eq_true.1 h.1 o (List.mem_of_getElem? (by simpa using ho))
    rw [eqO_iff.2 hd] at this; cases this
  | q :: l, i + 1, j + 1, d, o, p, h, ho, hp, hd, he => by
    simp only [ndO,Bool.and_eq_true] at h
    have e:=ndO_get h.2 (by simpa using ho) (by simpa using hp) hd he
    omega
theorem mtB_get : ∀ {l:List Oper} {L:List (Option (Nat × Value))} {i d:Nat} {v:Value},mtB l L=true→nthO L i=some (some (d,v))→∃ o,l[i]?=some o∧o.dst=some d
  | _,[],i,_,_,_,h=>by cases i <;> cases h
  | [],_ :: _,_,_,_,h,_=>by cases h
  | o :: os, x :: xs, 0, d, v, h, hx => by
    cases hx
    simp only [mtB,Bool.and_eq_true] at h
    exact ⟨o,rfl,eqO_iff.1 h.1⟩
  | o :: os, x :: xs, i + 1, d, v, h, hx => by
    simp only [mtB,Bool.and_eq_true] at h
    obtain ⟨p,h1,h2⟩:=mtB_get h.2 (show nthO xs i=_ from hx)
    exact ⟨p,by simpa using h1,h2⟩
theorem Blk.cst {w:World}{b:Nat}{t:TypeId}{ds cs:Array Value}(h:Blk w b t ds)(e:ds=cs) : Blk w b t cs:=e ▸ h
section draws
variable {P : Program} {r : Option Nat} {n N : Nat} {e0 : Nat → Value} {ds : List Deferred} {w0 : World} {Q : Exit → Act → World → Prop} {M : Nat}
def EndV (N:Nat)(ds:List Deferred) (X:(Nat→Bool)→(Nat→Value)→World→Prop) (L:List (Option (Nat × Value)))(ls:Nat→Bool)(e:Nat→Value)(i:Nat)(dst:Option Nat) : Exit→Act→World→Prop:=
  fun x a' w'=>x=.normal∧∃ v,a'=(act N e ds).put dst v∧(∀ d u,nthO L i=some (some (d,u))→v=u)∧X (setB ls i) (updO e dst v) w'
def DvS (r:Option Nat)(n:Nat) (P:Program) (N:Nat)(ds:List Deferred)(l:List Oper) (D:List Nat) (L:List (Option (Nat × Value))) (X:(Nat→Bool)→(Nat→Value)→World→Prop)(e0:Nat→Value) : Nat→List Oper→Prop
  | _,[]=>True
  | i, o :: os => (∀ (e : Nat → Value) (w : World) (ls : Nat → Bool), (∀ t, inB D t = false → e t = e0 t) → (∀ k d v, nthO L k = some (some (d, v)) → predAt l i k = true → e d = v) → X ls e w → (∀ j k, predAt l j k = true → ls j = true → ls k = true) → ls i = false → (∀ k, predAt l i k = true → ls k = true) →
      wpListIn (Fw r) n P l.toArray (EndV N ds X L ls e i o.dst) [o] (act N e ds) w)∧DvS r n P N ds l D L X e0 (i+1) os
theorem dvS_get {l:List Oper}{D:List Nat}{L:List (Option (Nat × Value))}{X:(Nat→Bool)→(Nat→Value)→World→Prop}(hnd:ndO (l.take M)=true)(hmt:mtB (l.take M) L=true)(hD:inD D (l.take M)=true) :
    ∀ (os:List Oper) (i0:Nat),(∀ k,os[k]?=(l.take M)[i0+k]?)→DvS r n P N ds l D L X e0 i0 os →
    StepsS r n P N ds l (fun ls e w=>(∀ t,inB D t=false→e t=e0 t)∧VL L ls e∧X ls e w) i0 os
  | [],_,_,_=>trivial
  | o :: os, i0, hk, h => by
    refine ⟨fun e w ls hJ hcl hni hpr=>?_,dvS_get hnd hmt hD os (i0+1) (fun k=>by rw [show i0+1+k=i0+(k+1) by omega,← hk (k+1)]; rfl) h.2⟩
    obtain ⟨hs,hv,hX⟩:=hJ
    have ho:(l.take M)[i0]?=some o:=by have:=hk 0; simpa using this.symm
    have hstep:=h.1 e w ls hs (fun k d v hl hp=>hv k d v hl (hpr k hp)) hX hcl hni hpr
    refine list_mono1 (K1:=fun a' w'=>∃ v,a'=(act N e ds).put o.dst v∧(∀ d u,nthO L i0=some (some (d,u))→v=u)∧X (setB ls i0) (updO e o.dst v) w') hstep (fun a' w' hE=>?_)
    obtain ⟨v,ha,hvv,hX'⟩:=hE
    refine ⟨v,ha,?_,?_,hX'⟩
    · cases hd : o.dst with
      | none=>exact hs
      | some d =>
        refine same_upd ?_ hs
        have:=List.all_eq_true.1 hD o (List.mem_of_getElem? ho)
        rw [hd] at this; exact this
    · intro j d' v' hj hl
      by_cases hji:j=i0
      · subst hji
        obtain ⟨p,hp1,hp2⟩:=mtB_get hmt hj
        rw [ho] at hp1
        cases hp1
        rw [hp2]
        show upd e d' v d'=v'
        rw [upd_eq]; exact hvv d' v' hj
      · have hl' : ls j = true := by
          have hb:Nat.beq j i0=false:=by
            cases hb:Nat.beq j i0 with
            | false=>rfl
            | true=>exact absurd (Nat.eq_of_beq_eq_true hb) hji
          unfold setB at hl; rw [hb] at hl; exact hl
        have he:=hv j d' v' hj hl'
        cases hd:o.dst with
        | none=>exact he
        | some d =>
          show upd e d v d'=v'
          obtain ⟨p,hp1,hp2⟩:=mtB_get hmt hj
          rw [upd_ne _ _ (fun hh:d'=d=>hji (ndO_get hnd hp1 ho (by rw [hp2,hh]) hd))]
          exact he
theorem c_dv {id : Nat} {l : List Oper} (hm : P.follows .mixedOrders = true) (M : Nat) (D : List Nat) (L : List (Option (Nat × Value))) (X : (Nat → Bool) → (Nat → Value) → World → Prop) (h0 : X (fun _ => false) e0 w0.drew)
    (hwf:wfB l=true) (hshape:shapeB l M=true) (hchk:(ndO (l.take M) && (mtB (l.take M) L && inD D (l.take M)))=true) (hstep:DvS r n P N ds l D L X e0 0 (l.take M))
    (hfin : ∀ (e:Nat→Value) (w:World) (ls:Nat→Bool),(∀ j,Nat.blt j M=true→ls j=true)→(∀ t,inB D t=false→e t=e0 t)→(∀ k d v,nthO L k=some (some (d,v))→Nat.blt k M=true→e d=v)→X ls e w→wpListIn (Fw r) n P l.toArray Q (l.drop M) (act N e ds) w) :
    (Code.region id l.toArray true).wpIn (Fw r) n P Q (act N e0 ds) w0:=by
  simp only [Bool.and_eq_true] at hchk
  refine c_st2 hm M (fun e0 ls e w=>(∀ t,inB D t=false→e t=e0 t)∧VL L ls e∧X ls e w) ⟨fun _ _=>rfl,(fun _ _ _ _ h=>by cases h),h0⟩ hwf hshape (dvS_get hchk.1 hchk.2.1 hchk.2.2 _ 0 (fun k=>by rw [Nat.zero_add]) hstep) ?_
  intro e w ls hall hJ
  exact hfin e w ls hall hJ.1 (fun k d v hl hk=>hJ.2.1 k d v hl (hall k hk)) hJ.2.2
def XE (w0:World) (_:Nat→Bool) (_:Nat→Value)(w:World) : Prop:=Ext w0 w
theorem dvE {L:List (Option (Nat × Value))}{ls:Nat→Bool}{e:Nat→Value}{i d:Nat}{v:Value}{w w' : World}(hl:nthO L i=some (some (d,v)))(hX:XE w0 ls e w)(k:Ext w w') : EndV N ds (XE w0) L ls e i (some d) .normal (act N (upd e d v) ds) w':=
  ⟨rfl,v,(act_put ..).symm,(fun _ _ h=>by rw [hl] at h; cases h; rfl),Ext.trans hX k⟩
def XA (w0:World)(a s d ty:Nat)(z v:Array Value)(ls:Nat→Bool)(e:Nat→Value)(w:World) : Prop:=
  Ext w0 w∧(ls a=true→∃ b,e d=.pointer (some ⟨b,0,none⟩)∧w0.heap.size≤b∧Blk w b ty (match ls s with | true=>v | false=>z))
theorem XA.start {a s d ty:Nat}{z v:Array Value} : XA w0 a s d ty z v (fun _=>false) e0 w0.drew:=⟨Ext.drew w0,fun h=>by cases h⟩
theorem setB_ne {ls:Nat→Bool}{i j:Nat}(h:Nat.beq j i=false) : setB ls i j=ls j:=by unfold setB; rw [h]
theorem setB_eq {ls:Nat→Bool}{i:Nat} : setB ls i i=true:=by unfold setB; simp
theorem upd_nb {e:Nat→Value}{d t:Nat}{v:Value}(h:Nat.beq t d=false) : upd e d v t=e t:=upd_ne _ _ (fun hh=>by subst hh; simp at h)
theorem dvA {L : List (Option (Nat × Value))} {ls : Nat → Bool} {e : Nat → Value} {i d a s t ty : Nat} {z u : Array Value} {v : Value} {w w' : World} (hl : nthO L i = some (some (d, v))) (hX : XA w0 a s t ty z u ls e w) (k : Ext w w') (h1 : Nat.beq a i = false := by rfl) (h2 : Nat.beq s i = false := by rfl) (h3 : Nat.beq t d = false := by rfl) :
    EndV N ds (XA w0 a s t ty z u) L ls e i (some d) .normal (act N (upd e d v) ds) w':=by
  refine ⟨rfl,v,(act_put ..).symm,(fun _ _ h=>by rw [hl] at h; cases h; rfl),Ext.trans hX.1 k,fun h=>?_⟩
  rw [setB_ne h1] at h
  obtain ⟨b,e1,e2,e3⟩:=hX.2 h
  refine ⟨b,?_,e2,?_⟩
  · show upd e d v t = _
    rw [upd_nb h3]; exact e1
  · rw [setB_ne h2]; exact Blk.ext k e3
theorem dvAa {L : List (Option (Nat × Value))} {ls : Nat → Bool} {e : Nat → Value} {a s t ty : Nat} {z u : Array Value} {w w' : World} (hl : nthO L a = some none) (hX : XA w0 a s t ty z u ls e w) (hs : ls s = false) (k : Ext w w') (hb : Blk w' w.heap.size ty z) (h2 : Nat.beq s a = false := by rfl) :
    EndV N ds (XA w0 a s t ty z u) L ls e a (some t) .normal (act N (upd e t (.pointer (some ⟨w.heap.size,0,none⟩))) ds) w':=by
  refine ⟨rfl,_,(act_put ..).symm,(fun _ _ h=>by rw [hl] at h; cases h),Ext.trans hX.1 k,fun _=>⟨w.heap.size,?_,Below.size hX.1,?_⟩⟩
  · show upd e t _ t = _
    rw [upd_eq]
  · rw [setB_ne h2,hs]; exact hb
theorem dvAs {L : List (Option (Nat × Value))} {ls : Nat → Bool} {e : Nat → Value} {a s t ty b : Nat} {z u : Array Value} {w w' : World} (hl : nthO L s = none ∨ nthO L s = some none) (hX : XA w0 a s t ty z u ls e w) (he : e t = .pointer (some ⟨b, 0, none⟩)) (hlo : w0.heap.size ≤ b) (k : Put w w' b) (hb : Blk w' b ty u) (h2 : Nat.beq a s = false := by rfl) :
    EndV N ds (XA w0 a s t ty z u) L ls e s none .normal (act N e ds) w':=by
  refine ⟨rfl,undef,rfl,(fun _ _ h=>absurd h (by rcases hl with hl | hl <;> rw [hl] <;> simp)),Put.low k hX.1 hlo,fun _=>⟨b,he,hlo,?_⟩⟩
  rw [setB_eq]; exact hb
theorem dvAn {L:List (Option (Nat × Value))}{ls:Nat→Bool}{e:Nat→Value}{a s t ty:Nat}{z:Array Value}{w w' : World}(hl:nthO L a=some none)(hX:XA w0 a s t ty z z ls e w)(k:Ext w w')(hb:Blk w' w.heap.size ty z) :
    EndV N ds (XA w0 a s t ty z z) L ls e a (some t) .normal (act N (upd e t (.pointer (some ⟨w.heap.size,0,none⟩))) ds) w':=by
  refine ⟨rfl,_,(act_put ..).symm,(fun _ _ h=>by rw [hl] at h; cases h),Ext.trans hX.1 k,fun _=>⟨w.heap.size,?_,Below.size hX.1,?_⟩⟩
  · show upd e t _ t = _
    rw [upd_eq]
  · cases setB ls a s <;> exact hb
theorem XA.opn {a s d ty:Nat}{z v:Array Value}{ls:Nat→Bool}{e:Nat→Value}{w:World}(h:XA w0 a s d ty z v ls e w)(ha:ls a=true)(hs:ls s=false) : ∃ b,e d=.pointer (some ⟨b,0,none⟩)∧w0.heap.size≤b∧Blk w b ty z:=by
  obtain ⟨b,h1,h2,h3⟩:=h.2 ha
  rw [hs] at h3
  exact ⟨b,h1,h2,h3⟩
theorem XA.fin {a s d ty:Nat}{z v:Array Value}{ls:Nat→Bool}{e:Nat→Value}{w:World}(h:XA w0 a s d ty z v ls e w)(ha:ls a=true)(hs:ls s=true ∨ z=v) : ∃ b,e d=.pointer (some ⟨b,0,none⟩)∧w0.heap.size≤b∧Blk w b ty v:=by
  obtain ⟨b,h1,h2,h3⟩:=h.2 ha
  rcases hs with hs | hs
  · rw [hs] at h3; exact ⟨b,h1,h2,h3⟩
  · subst hs; refine ⟨b,h1,h2,?_⟩; cases hh:ls s <;> rw [hh] at h3 <;> exact h3
def XW (w0:World)(b s ty:Nat)(z v:Array Value)(ls:Nat→Bool) (_:Nat→Value)(w:World) : Prop:=
  w0.grownBy w (some b)∧Blk w b ty (match ls s with | true=>v | false=>z)
theorem XW.start {b s ty:Nat}{z v:Array Value}(h:Blk w0 b ty z) : XW w0 b s ty z v (fun _=>false) e0 w0.drew:=⟨gb_ext (World.grownBy.refl w0 _) (Ext.drew w0),Blk.ext (Ext.drew w0) h⟩
theorem dvW {L : List (Option (Nat × Value))} {ls : Nat → Bool} {e : Nat → Value} {i d b s ty : Nat} {z u : Array Value} {v : Value} {w w' : World} (hl : nthO L i = some (some (d, v))) (hX : XW w0 b s ty z u ls e w) (k : Ext w w') (h2 : Nat.beq s i = false := by rfl) :
    EndV N ds (XW w0 b s ty z u) L ls e i (some d) .normal (act N (upd e d v) ds) w':=by
  refine ⟨rfl,v,(act_put ..).symm,(fun _ _ h=>by rw [hl] at h; cases h; rfl),gb_ext hX.1 k,?_⟩
  rw [setB_ne h2]; exact Blk.ext k hX.2
theorem XW.opn {b s ty:Nat}{z v:Array Value}{ls:Nat→Bool}{e:Nat→Value}{w:World}(h:XW w0 b s ty z v ls e w)(hs:ls s=false) : Blk w b ty z:=by
  have h3:=h.2
  rw [hs] at h3; exact h3
theorem XW.fin {b s ty:Nat}{z v:Array Value}{ls:Nat→Bool}{e:Nat→Value}{w:World}(h:XW w0 b s ty z v ls e w)(hs:ls s=true) : Blk w b ty v:=by
  have h3:=h.2
  rw [hs] at h3; exact h3
theorem dvWs {L:List (Option (Nat × Value))}{ls:Nat→Bool}{e:Nat→Value}{s ty b:Nat}{z u:Array Value}{w w' : World}(hl:nthO L s=none ∨ nthO L s=some none)(hX:XW w0 b s ty z u ls e w)(k:Put w w' b)(hb:Blk w' b ty u) :
    EndV N ds (XW w0 b s ty z u) L ls e s none .normal (act N e ds) w':=by
  refine ⟨rfl,undef,rfl,(fun _ _ h=>absurd h (by rcases hl with hl | hl <;> rw [hl] <;> simp)),gb_put hX.1 k,?_⟩
  rw [setB_eq]; exact hb
def XG (Rel:World→Prop) (_:Nat→Bool) (_:Nat→Value)(w:World) : Prop:=Rel w
theorem dvG {Rel:World→Prop}{L:List (Option (Nat × Value))}{ls:Nat→Bool}{e:Nat→Value}{i d:Nat}{v:Value}{w' : World}(hl:nthO L i=some (some (d,v)))(h:Rel w') : EndV N ds (XG Rel) L ls e i (some d) .normal (act N (upd e d v) ds) w':=
  ⟨rfl,v,(act_put ..).symm,(fun _ _ h=>by rw [hl] at h; cases h; rfl),h⟩
def XH (Rel:World→Prop)(n0 a d ty:Nat)(z:Array Value)(ls:Nat→Bool)(e:Nat→Value)(w:World) : Prop:=
  Rel w∧n0≤w.heap.size∧(ls a=true→∃ b,e d=.pointer (some ⟨b,0,none⟩)∧n0≤b∧Blk w b ty z)
theorem XH.start {Rel:World→Prop}{a d ty:Nat}{z:Array Value}(h:Rel w0.drew) : XH Rel w0.heap.size a d ty z (fun _=>false) e0 w0.drew:=⟨h,Below.size (Ext.drew w0),fun h=>by cases h⟩
theorem dvH {Rel : World → Prop} {L : List (Option (Nat × Value))} {ls : Nat → Bool} {e : Nat → Value} {n0 i d a t ty : Nat} {z : Array Value} {v : Value} {w w' : World} {row : Option Nat} (hl : nthO L i = some (some (d, v))) (hX : XH Rel n0 a t ty z ls e w) (h : Rel w') (k : w.grownBy w' row) (hr : ∀ g, row = some g → g < n0) (h1 : Nat.beq a i = false := by rfl) (h3 : Nat.beq t d = false := by rfl) :
    EndV N ds (XH Rel n0 a t ty z) L ls e i (some d) .normal (act N (upd e d v) ds) w':=by
  refine ⟨rfl,v,(act_put ..).symm,(fun _ _ h=>by rw [hl] at h; cases h; rfl),h,Nat.le_trans hX.2.1 k.size,fun ha=>?_⟩
  rw [setB_ne h1] at ha
  obtain ⟨b,e1,e2,e3⟩:=hX.2.2 ha
  refine ⟨b,?_,e2,Blk.gr k (fun he=>by have:=hr b he.symm; omega) e3⟩
  show upd e d v t=_
  rw [upd_nb h3]; exact e1
theorem dvHx {Rel : World → Prop} {L : List (Option (Nat × Value))} {ls : Nat → Bool} {e : Nat → Value} {n0 i d a t ty : Nat} {z : Array Value} {v : Value} {w w' : World} (hl : nthO L i = some (some (d, v))) (hX : XH Rel n0 a t ty z ls e w) (h : Rel w') (k : Ext w w') (h1 : Nat.beq a i = false := by rfl) (h3 : Nat.beq t d = false := by rfl) :
    EndV N ds (XH Rel n0 a t ty z) L ls e i (some d) .normal (act N (upd e d v) ds) w':=dvH hl hX h (gb_ext (World.grownBy.refl w none) k) (fun g h=>by cases h) h1 h3
theorem dvHa {Rel:World→Prop}{L:List (Option (Nat × Value))}{ls:Nat→Bool}{e:Nat→Value}{n0 a t ty:Nat}{z:Array Value}{w w' : World}(hl:nthO L a=some none)(hX:XH Rel n0 a t ty z ls e w)(h:Rel w')(k:Ext w w')(hb:Blk w' w.heap.size ty z) :
    EndV N ds (XH Rel n0 a t ty z) L ls e a (some t) .normal (act N (upd e t (.pointer (some ⟨w.heap.size,0,none⟩))) ds) w':=by
  refine ⟨rfl,_,(act_put ..).symm,(fun _ _ h=>by rw [hl] at h; cases h),h,Nat.le_trans hX.2.1 k.size,fun _=>⟨w.heap.size,?_,hX.2.1,hb⟩⟩
  show upd e t _ t=_
  rw [upd_eq]
end draws
end Go.Eng
namespace Go.Proofs.YtonigegpknhdnaaGreatDoor
set_option maxRecDepth 100000
open Go Go.Eng Go.RowKit
attribute [local irreducible] wpListIn Code.wpIn Oper.wpIn Exit.then Exit.inBlock Exit.noGoto
set_option maxHeartbeats 40000000
def mnR (q:Bool)(x y:R) : R:=cond q y x
theorem mn_t {q:Bool}{x y:R}(h:q=true) : mnR q x y=y:=by subst h; rfl
theorem mn_f {q:Bool}{x y:R}(h:q=false) : mnR q x y=x:=by subst h; rfl
def mnA (q:Bool)(x y:R)(i:Nat) : R:=if i=1 then x else mnR q x y
theorem mnA_2 {q:Bool}{x y:R} : mnA q x y 2=mnR q x y:=rfl
section
variable {a b c d : Int} {w : World}
theorem qCmpX (h1:Q9 a b)(h2:Q9 c d)(ht:Tb w) : Calls Tryz.prog 15 #[.agg #[S (qR a b).1,S (qR a b).2],.agg #[S (qR c d).1,S (qR c d).2]] w (Ret w fun v _=>v=.int .i64 (cmpI (a*d) (c*b))):=qCmpL rfl rfl h1 h2 ht
theorem qAddX (h1:Q9 a b)(h2:Q9 c d)(ht:Tb w) : Calls Tryz.prog 13 #[.agg #[S (qR a b).1,S (qR a b).2],.agg #[S (qR c d).1,S (qR c d).2]] w (Ret w fun v _=>v=Qv (a*d+c*b) (b*d)):=qAddL rfl rfl h1 h2 ht
theorem qSubX (h1:Q9 a b)(h2:Q9 c d)(ht:Tb w) : Calls Tryz.prog 16 #[.agg #[S (qR a b).1,S (qR a b).2],.agg #[S (qR c d).1,S (qR c d).2]] w (Ret w fun v _=>v=Qv (a*d - c*b) (b*d)):=qSubL rfl rfl h1 h2 ht
theorem qDivX (h1:Q9 a b)(h2:Q9 c d)(hc:0<c)(ht:Tb w) : Calls Tryz.prog 42 #[.agg #[S (qR a b).1,S (qR a b).2],.agg #[S (qR c d).1,S (qR c d).2]] w (Ret w fun v _=>v=Qv (a*d) (b*c)):=qDivL rfl rfl h1 h2 hc ht
end
theorem rmust_ok {l m:List UInt8}{w:World} :
    Calls Tryz.prog 152 #[.agg #[S l,S m],.int .i64 0] w (Ret w fun v w'=>v=.agg #[S l,S m]):=by
 refine f_in Tryz.func152 rfl ?_;refine go ?_;refine bx (fun aom aoo r8=>?_);have sc:=aoo.2;refine al inf36 (fun _ aon aop=>?_);have ⟨r8,sc⟩:=be1 aon.2 r8 sc;refine go ?_;refine SA aop (fun _ aol aoq=>?_);have ⟨r8,sc,_⟩:=pl1 aol r8 sc;refine go ?_;refine f_out (v:=.agg #[S l,S m]) (res1  rfl ?_) sc rfl;refine res_cellA (t:=4) (cs:=[S l,S m]) (b:=aom.heap.size) (o:=0) U36 rfl sz36 ?_ ?_;exact rfl;exact Blk.cells aoq (i:=0) rfl
theorem imust_ok {x:R × R}{w:World} :
    Calls Tryz.prog 104 #[.agg #[S (x.1.1),S (x.1.2),S (x.2.1),S (x.2.2)],.int .i64 0] w (Ret w fun v w'=>v=.agg #[S (x.1.1),S (x.1.2),S (x.2.1),S (x.2.2)]):=by
 refine f_in Tryz.func104 rfl ?_;refine go ?_;refine bx (fun aom aoo r8=>?_);have sc:=aoo.2;refine al inf1032 (fun _ aon aop=>?_);have ⟨r8,sc⟩:=be1 aon.2 r8 sc;refine go ?_;refine l_op (k_loadA (cs:=[S (x.1.1),S (x.1.2),S (x.2.1),S (x.2.2)]) (b:=w.heap.size) (o:=0) U1032 rfl sz1032 rfl (Blk.cells r8 (i:=0) rfl) ?_);refine SA aop (fun _ aol aoq=>?_);have ⟨r8,sc,_⟩:=pl1 aol r8 sc;refine go ?_;refine f_out (v:=.agg #[S (x.1.1),S (x.1.2),S (x.2.1),S (x.2.2)]) (res1  rfl ?_) sc rfl;refine res_cellA (t:=4) (cs:=[S (x.1.1),S (x.1.2),S (x.2.1),S (x.2.2)]) (b:=aom.heap.size) (o:=0) U1032 rfl sz1032 ?_ ?_;exact rfl;exact Blk.cells aoq (i:=0) rfl
theorem whole_ok {n:Int}{w:World}(hn:In64 n)(ht:Tb w) :
    Calls Tryz.prog 107 #[.int .i64 n] w (Ret w fun v w'=>v=.agg #[S (qR n 1).1,S (qR n 1).2]):=by
 refine f_in Tryz.func107 rfl ?_;refine go ?_;refine al inf36 (fun _ aoo sc=>?_);have r8:=aoo.2;refine go ?_;refine clb en1025 (hc:=rOfZ_ok hn (by unfold In64; decide) dc (ht.ext r8)) (hk:=?_);rintro _ _ aol rfl;have ⟨sc,r8⟩:=be1 aol.2 sc r8;refine go ?_;refine cl en2152 rmust_ok ?_;rintro _ _ aom rfl;have ⟨sc,r8⟩:=be1 aom.2 sc r8;refine SA sc (fun _ aon aop=>?_);have r8:=plw aon r8;have aow:=psz aon;refine go ?_;refine f_out (v:=.agg #[S (qR n 1).1,S (qR n 1).2]) (res1  rfl ?_) r8 rfl;refine res_cellA (t:=2) (cs:=[S (qR n 1).1,S (qR n 1).2]) (b:=w.heap.size) (o:=0) U36 rfl sz36 ?_ ?_;exact rfl;exact Blk.cells aop (i:=0) rfl
theorem isLess_ok {a b c d:Int}{w:World}(h1:Q9 a b)(h2:Q9 c d)(ht:Tb w) :
    Calls Tryz.prog 101 #[.agg #[S (qR a b).1,S (qR a b).2],.agg #[S (qR c d).1,S (qR c d).2]] w (Ret w fun v w'=>v=.bool (decide (cmpI (a*d) (c*b)<0))):=by
 refine f_in Tryz.func101 rfl ?_;refine go ?_;refine bx (fun _ aop sc=>?_);have r8:=aop.2;refine bx (fun _ aon _=>?_);have ⟨sc,r8⟩:=be1 aon.2 sc r8;refine go ?_;refine cl en49 (qCmpX h1 h2 (ht.ext r8)) ?_;rintro _ _ aom rfl;have r8:=xt r8 aom.2;refine go ?_;exact f_ret1 (t:=4) (v:=.bool (decide ((cmpI (a*d) (c*b))<0))) rfl r8 rfl rfl
theorem minFunc_ok {A : Option Addr} {cp lo : Nat} {x y : R} {k : Int} {q : Bool} {w : World} (hr : Rw w lo A (cellsR [x, y])) (hq : decide (k < 0) = q) (hc : ∀ W, Ext w W → Calls Tryz.prog 15 #[.agg #[S y.1, S y.2], .agg #[S x.1, S x.2]] W (Ret W fun v _ => v = .int .i64 k)) :
    Calls Tryz.prog 87 #[.slice A 2 cp,.func (.func 15) #[] #[]] w (Ret w fun v w'=>v=.agg #[S (mnR q x y).1,S (mnR q x y).2]):=by
 obtain ⟨bk0,o0,hA0,hcs0⟩:=rw_pair hr (i:=0) (by simp);obtain ⟨bk1,o1,hA1,hcs1⟩:=rw_pair hr (i:=1) (by simp);refine f_in Tryz.func87 rfl ?_;refine go ?_;refine al inf36 (fun aom ao3 sc=>?_);have aon:=ao3.2;refine go ?_;refine l_op (k_indexAddr (i:=0) (oo:=o0+0*2) U23 sz36 rfl hA0 rfl dc rfl ?_);refine l_op (k_loadA (cs:=[S (x.1),S (x.2)]) (b:=bk0) (o:=o0+0*2) U36 rfl sz36 rfl (fun j u hj=>Ext.cell aon (hcs0 j u hj)) ?_);refine al inf36 (fun _ aow ao4=>?_);have ⟨sc,aon⟩:=be1 aow.2 sc aon;refine SA ao4 (fun ao5 aoq r8=>?_);have ⟨sc,aon,_⟩:=pl1 aoq sc aon;refine go ?_;refine c_lp [(6,6),(14,31)] (fun kk e W=>∃ i:Nat,(2 - i=kk)∧(e 6=.int .i64 i)∧(1≤i∧i≤2)∧(ao5.heap.size≤W.heap.size)∧(Ext w W)∧(Blk W (w.heap.size) 25 #[S ([]),S ([])])∧(Blk W (aom.heap.size) 25 #[S ((mnA q x y i).1),S ((mnA q x y i).2)])) (2 - 1) ⟨1,rfl,rfl,dc,(Nat.le_refl _),aon,sc,r8⟩ ?_;rintro _ _ aox ⟨i,rfl,aoo,hi,apc,aol,sc,r8⟩;have apd:=bz aol;by_cases h0:i<2;obtain rfl:i=1:=by omega
 have r8:Blk aox (aom.heap.size) 25 #[S (x.1),S (x.2)]:=r8;refine go ?_;refine c_an 6 ?_;refine sf ?_;refine sf_ap (fun _ _ _ _=>by refine l_op (k_indexAddr (i:=1) (oo:=o1+1*2) U23 sz36 rfl hA1 rfl dc rfl ?_);refine go ?_;exact finp) ?_;refine sf_ap (fun _ _ aor _=>by refine l_op (k_loadA (cs:=[S (y.1),S (y.2)]) (b:=bk1) (o:=o1+1*2) U36 rfl sz36 rfl (fun j u hj=>Ext.cell (xt aol aor) (hcs1 j u hj)) ?_);refine go ?_;exact finp) ?_;refine sf ?_;intro _ _ aos _;have ⟨sc,r8,aol⟩:=be2 aos.2 sc r8 aol;refine l_op (clV (vs:=[.agg #[S (y.1),S (y.2)],.agg #[S (x.1),S (x.2)]]) (lb:=[]) en49 rfl rfl (hc _ aol) ?_);rintro _ _ aot rfl;have ⟨sc,r8,aol⟩:=be2 aot.2 sc r8 aol;refine go ?_;by_cases aop:k<0;refine go ?_;refine l_op (k_indexAddr (i:=1) (oo:=o1+1*2) U23 sz36 rfl hA1 rfl dc rfl ?_);refine l_op (k_loadA (cs:=[S (y.1),S (y.2)]) (b:=bk1) (o:=o1+1*2) U36 rfl sz36 rfl (fun j u hj=>Ext.cell aol (hcs1 j u hj)) ?_);refine SA r8 (fun _ aou ao6=>?_);have ⟨sc,aol,_⟩:=pl1 aou sc aol;refine go ?_;refine l_op (k_add (a:=1) (b:=1) (c:=2) rfl rfl (by unfold In64; omega) rfl ?_);refine go ?_;exact lend (hk:=by decide) ⟨2,rfl,rfl,dc,om,aol,sc,(by rw [mnA_2,mn_t (hq.symm.trans (decide_eq_true aop))]; exact ao6)⟩;refine go ?_;refine l_op (k_add (a:=1) (b:=1) (c:=2) rfl rfl (by unfold In64; omega) rfl ?_);refine go ?_
 exact lend (hk:=by decide) ⟨2,rfl,rfl,dc,om,aol,sc,(by rw [mnA_2,mn_f (hq.symm.trans (decide_eq_false aop))]; exact r8)⟩;obtain rfl:i=2:=by omega
 have r8:Blk aox (aom.heap.size) 25 #[S ((mnR q x y).1),S ((mnR q x y).2)]:=r8;refine go ?_;refine SA sc (fun _ aov ao7=>?_);have ⟨r8,aol,_⟩:=pl1 aov r8 aol;refine go ?_;refine f_out (v:=.agg #[S ((mnR q x y).1),S ((mnR q x y).2)]) (res1  rfl ?_) aol rfl;refine res_cellA (t:=4) (cs:=[S ((mnR q x y).1),S ((mnR q x y).2)]) (b:=w.heap.size) (o:=0) U36 rfl sz36 ?_ ?_;exact rfl;exact Blk.cells ao7 (i:=0) rfl
end Go.Proofs.YtonigegpknhdnaaGreatDoor
