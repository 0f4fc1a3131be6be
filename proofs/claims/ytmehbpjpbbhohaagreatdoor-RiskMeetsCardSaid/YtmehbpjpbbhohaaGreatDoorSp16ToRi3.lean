/- Part of the proof of a statement about risks. -/
import Derived.Test.YtmehbpjpbbhohaaGreatDoorRatQToSp15
import Derived.Test.YtmehbpjpbbhohaaGreatDoorEngPToEngH
import Derived.Test.YtmehbpjpbbhohaaGreatDoorBaseToEngJ
set_option linter.all false
namespace Go.Proofs.YtmehbpjpbbhohaaGreatDoor
open Go Go.Eng Go.RowKit
attribute [local irreducible] wpListIn Code.wpIn Oper.wpIn Exit.then Exit.inBlock Exit.noGoto
set_option maxHeartbeats 40000000
structure CellW (k pl:Nat)(r:Int×Int)(f c:Int):Prop where
  b1:r.1.natAbs<10^90
  b2:r.2.natAbs<10^90
  le:r.1<=r.2
  hf:flI r.1 (tenI (pl+k)) (tenI pl)=f
  hc:clI r.2 (tenI (pl+k)) (tenI pl)=c
  f9:f.natAbs<10^70
  c9:c.natAbs<10^70
  fc:f<=c
theorem CellW.r {pl:Nat}{r:Int×Int}{f c:Int}(h:CellW 15 pl r f c)(h1:c<=f+1):CellR pl r f c:=⟨h.b1,h.b2,h.le,h.hf,h.hc,h.f9,h.c9,h.fc,h1⟩
theorem width_gt {f c T:Int}(h:f+1<c)(hT:0<T):¬cmpI ((c*T-f*T)*T) (1*(T*T))<=0:=by
  rw[cmpI_nonpos,<-Int.sub_mul,Int.mul_assoc]
  have h1:0<T*T:=Int.mul_pos hT hT
  have h2:2*(T*T)<=(c-f)*(T*T):=Int.mul_le_mul_of_nonneg_right om (Int.le_of_lt h1)
  omega
set_option maxRecDepth 100000 in
theorem cell_two {l m l1 m1 l2 m2 l3 m3 l4 m4:List UInt8}{g:Nat}{lb:List Value}{a b la lb0 ha hb:Int}{pl:Nat}{w:World}(e:(l,m)=qR a b)(h:Q9 a b)(ha12:a.natAbs<10^12)(hb12:b<10^12)(e1:(l1,m1)=qR la lb0)(q1:Q9 la lb0)(e2:(l2,m2)=qR ha hb)(q2:Q9 ha hb){r1 r2:Int×Int}{f1 c1 f2 c2:Int}(hrt:rightB pl a b la lb0 ha hb=true)(hp:pl<=12)(hne:¬((l,m):R)=(l3,m3))(hg:Enters Tryz.prog g)(hbd1:∀W,Ext w W->CL g ([.agg #[.int .i64 ((pl+15:Nat):Int),S (nS (10^(pl+15)))],.agg #[S l,S m]].toArray++lb.toArray) W (Ret W λv _=>v=.agg #[S (showI r1.1),S (showI r1.2)]))(hbd2:∀W,Ext w W->CL g ([.agg #[.int .i64 ((pl+40:Nat):Int),S (nS (10^(pl+40)))],.agg #[S l,S m]].toArray++lb.toArray) W (Ret W λv _=>v=.agg #[S (showI r2.1),S (showI r2.2)]))(hC1:CellW 15 pl r1 f1 c1)(hno:f1+1<c1)(hC2:CellW 40 pl r2 f2 c2)(hone:c2<=f2+1)(ht:Tb w):
    CL 126 #[.agg #[S l1,S m1,S l2,S m2,S l3,S m3,S l4,S m4,.func (.func g) #[] lb.toArray],.agg #[S l,S m],.int .i64 pl] w (Ret w λv w'=>v=.tuple #[IV f2 (tenI pl) c2 (tenI pl),.int .i64 0]):=by
 have za1:=ten_q9 (k:=pl+15) hC1.b1 om;have za2:=ten_q9 (k:=pl+15) hC1.b2 om;have ya1:=ten_q9 (k:=pl) (a:=f1) (Nat.lt_of_lt_of_le hC1.f9 dc) om;have ya2:=ten_q9 (k:=pl) (a:=c1) (Nat.lt_of_lt_of_le hC1.c9 dc) om;have wqa:Q9 (c1*tenI pl-f1*tenI pl) (tenI pl*tenI pl):=wq9 hC1.f9 hC1.c9 hp;have zb1:=ten_q9 (k:=pl+40) hC2.b1 om;have zb2:=ten_q9 (k:=pl+40) hC2.b2 om;have yb1:=ten_q9 (k:=pl) (a:=f2) (Nat.lt_of_lt_of_le hC2.f9 dc) om;have yb2:=ten_q9 (k:=pl) (a:=c2) (Nat.lt_of_lt_of_le hC2.c9 dc) om;have wqb:Q9 (c2*tenI pl-f2*tenI pl) (tenI pl*tenI pl):=wq9 hC2.f9 hC2.c9 hp;have ones:=ten_q9 (k:=pl) (a:=1) dc om;refine f_in Tryz.func126 rfl ?_;refine go ?_;refine bx (λaqj aq5 r8=>?_);have apd:=aq5.2;refine bx (λaqu aqx sc=>?_);have⟨r8,apd⟩:=be1 aqx.2 r8 apd;refine al inf1032 (λ_ aqv aol=>?_);have⟨r8,sc,apd⟩:=be2 aqv.2 r8 sc apd;refine go ?_;refine l_op (k_loadA (cs:=[S l1,S m1,S l2,S m2,S l3,S m3,S l4,S m4,.func (.func g) #[] lb.toArray]) (b:=w.heap.size) (o:=0) U1052 rfl sz1052 rfl (Blk.cells r8 (i:=0) rfl) ?_);refine go ?_;refine cl en1042 (cB (isRight_ok e h ha12 hb12 e1 q1 e2 q2 rfl (ht.ext apd)) hrt) ?_;rintro _ aqk aqt rfl;have⟨r8,sc,aol,apd⟩:=be3 aqt.2 r8 sc aol apd;refine go ?_;refine l_op (k_eqlR (a:=(l,m)) (b:=(l3,m3)) (q:=decide ((l,m)=(l3,m3))) rfl rfl rfl ?_);refine go ?_;refine BS2 (λaq6 aql _ aom=>?_)
 have⟨r8,sc,aol,apd⟩:=be3 aql r8 sc aol apd;have art:=bz aql;refine go ?_;refine c_lp [(7,7),(11,22),(44,111)] (λkk e W=>∃i:Nat,(2-i=kk)∧(e 44=.int .i64 i)∧(i<=1)∧(aq6.heap.size<=W.heap.size)∧(Ext w W)∧(Blk W (w.heap.size) 141 #[S l1,S m1,S l2,S m2,S l3,S m3,S l4,S m4,.func (.func g) #[] lb.toArray])∧(Blk W (aqj.heap.size) 25 #[S l,S m])∧(Blk W (aqu.heap.size) 33 #[S ([]),S ([]),S ([]),S ([])])∧(World.ownsRow W (aqk.heap.size) 3 1 (.slice (some ⟨aqk.heap.size,0,none⟩) 2 2) 2 [.int .i64 15,.int .i64 40])) (2-0) ⟨0,rfl,rfl,dc,(Nat.le_refl _),apd,r8,sc,aol,aom⟩ ?_;rintro _ _ _ ⟨i,rfl,aqm,hi,arx,aon,r8,sc,aol,aom⟩;have ary:=bz aon;by_cases hz0:i=0;obtain rfl:i=0:=by omega
 refine go ?_;obtain⟨bk,oo,hA,hcl⟩:=(Rw.of_own aom).cells 0 _ rfl;refine l_op (k_indexAddr (i:=0) (oo:=oo+0) U24 sz3 rfl hA aqm dc rfl ?_);refine l_op (k_load (v:=.int .i64 15) U3 rfl rfl hcl ?_);refine go ?_;refine l_op (k_add (a:=(pl:Int)) (b:=15) (c:=((pl+15:Nat):Int)) rfl rfl (by unfold In64;omega) om ?_);refine clb en1035 (hc:=spAt_ok om (ht.ext aon)) (hk:=?_);rintro _ _ aqn rfl;have⟨r8,sc,aol⟩:=bf3 aqn.2 r8 sc aol;have aom:=own_ext aqn.2 aom;have aon:=xt aon aqn.2;refine al inf1054 (λ_ aqo aq7=>?_);have⟨r8,sc,aol⟩:=bf3 aqo.2 r8 sc aol;have aom:=own_ext aqo.2 aom;have aon:=xt aon aqo.2;refine SA aq7 (λ_ aqc aop=>?_);have⟨r8,sc,aol⟩:=pf3 aqc r8 sc aol;have aom:=own_put aqc (by simp[Value.ownBlock];omega) aom;have aon:=plw aqc aon;have ar2:=psz aqc;refine go ?_;refine l_op (clV (f:=g) (lb:=lb) (vs:=[.agg #[.int .i64 ((((pl+15):Nat):Int)),S (nS (10^(pl+15)))],.agg #[S l,S m]]) hg rfl rfl (cArr (hbd1 _ aon)) ?_);rintro _ _ aqd rfl;have⟨r8,sc,aol⟩:=bf3 aqd.2 r8 sc aol;have aom:=own_ext aqd.2 aom;have⟨aop,aon⟩:=be1 aqd.2 aop aon;refine al inf1056 (λ_ aqe aq8=>?_);have⟨r8,sc,aol⟩:=bf3 aqe.2 r8 sc aol;have aom:=own_ext aqe.2 aom;have⟨aop,aon⟩:=be1 aqe.2 aop aon;refine SA aq8 (λ_ ap5 aor=>?_);have⟨r8,sc,aol⟩:=pf3 ap5 r8 sc aol;have aom:=own_put ap5 (by simp[Value.ownBlock];omega) aom;have⟨aop,aon,_⟩:=pl1 ap5 aop aon;refine go ?_
 refine cl en1046 (rMakeZ_ok rfl rfl za1.fz.1 za1.fz.2 (Int.ne_of_gt za1.2.1) (ht.ext aon)) ?_;rintro _ _ ap6 rfl;have⟨r8,sc,aol⟩:=bf3 ap6.2 r8 sc aol;have aom:=own_ext ap6.2 aom;have⟨aop,aor,aon⟩:=be2 ap6.2 aop aor aon;refine go ?_;refine al inf36 (λ_ ap7 aq9=>?_);have⟨r8,sc,aol⟩:=bf3 ap7.2 r8 sc aol;have aom:=own_ext ap7.2 aom;have⟨aop,aor,aon⟩:=be2 ap7.2 aop aor aon;refine SA aq9 (λ_ apz aot=>?_);have⟨r8,sc,aol⟩:=pf3 apz r8 sc aol;have aom:=own_put apz (by simp[Value.ownBlock];omega) aom;have⟨aop,aor,aon,_⟩:=pl2 apz aop aor aon;refine go ?_;refine cl en1046 (rMakeZ_ok rfl rfl za2.fz.1 za2.fz.2 (Int.ne_of_gt za2.2.1) (ht.ext aon)) ?_;rintro _ _ ap0 rfl;have⟨r8,sc,aol⟩:=bf3 ap0.2 r8 sc aol;have aom:=own_ext ap0.2 aom;have⟨aop,aor,aot,aon⟩:=be3 ap0.2 aop aor aot aon;refine go ?_;refine al inf36 (λ_ ap1 ara=>?_);have⟨r8,sc,aol⟩:=bf3 ap1.2 r8 sc aol;have aom:=own_ext ap1.2 aom;have⟨aop,aor,aot,aon⟩:=be3 ap1.2 aop aor aot aon;refine SA ara (λ_ apt aov=>?_);have⟨r8,sc,aol⟩:=pf3 apt r8 sc aol;have aom:=own_put apt (by simp[Value.ownBlock];omega) aom;have⟨aop,aor,aot,aon,_⟩:=pl3 apt aop aor aot aon;refine go ?_
 refine l_op (k_build (vs:=[(0,QV r1.1 (tenI (pl+15))),(1,QV r1.2 (tenI (pl+15)))]) (cells:=#[S ((qR r1.1 (tenI (pl+15))).1),S ((qR r1.1 (tenI (pl+15))).2),S ((qR r1.2 (tenI (pl+15))).1),S ((qR r1.2 (tenI (pl+15))).2)]) (pl:=[(0,2),(2,2)]) U1032 inf1032 (by kernel_rfl) rfl (by kernel_rfl) ?_);refine go ?_;refine clb en1048 (hc:=cEq (Y:=.tuple #[IV f1 (tenI pl) c1 (tenI pl),.int .i64 0]) (round_ok (x:=(qR r1.1 (tenI (pl+15)),qR r1.2 (tenI (pl+15)))) rfl rfl za1 za2 (Int.mul_le_mul_of_nonneg_right hC1.le (Int.le_of_lt za1.2.1)) om (ht.ext aon)) (by rw[hC1.hf,hC1.hc])) (hk:=?_);rintro _ aq0 apu rfl;have⟨r8,sc,aol⟩:=bf3 apu.2 r8 sc aol;have aom:=own_ext apu.2 aom;have⟨aop,aor,aot,aov,aon⟩:=be4 apu.2 aop aor aot aov aon;refine go ?_;refine al inf1032 (λ_ apv arb=>?_);have⟨r8,sc,aol⟩:=bf3 apv.2 r8 sc aol;have aom:=own_ext apv.2 aom;have⟨aop,aor,aot,aov,aon⟩:=be4 apv.2 aop aor aot aov aon;refine SA arb (λ_ ape aox=>?_);have⟨r8,sc,aol⟩:=pf3 ape r8 sc aol;have aom:=own_put ape (by simp[Value.ownBlock];omega) aom;have⟨aop,aor,aot,aov,aon,_⟩:=pl4 ape aop aor aot aov aon;refine go ?_;refine l_op (k_loadA (cs:=[S ((qR f1 (tenI pl)).1),S ((qR f1 (tenI pl)).2),S ((qR c1 (tenI pl)).1),S ((qR c1 (tenI pl)).2)]) (b:=aq0.heap.size) (o:=0) U1032 rfl sz1032 rfl (Blk.cells aox (i:=0) rfl) ?_)
 refine cl en1049 (width_ok (x:=(qR f1 (tenI pl),qR c1 (tenI pl))) rfl rfl ya1 ya2 (Int.mul_le_mul_of_nonneg_right hC1.fc (Int.le_of_lt ya1.2.1)) (ht.ext aon)) ?_;rintro _ _ apf rfl;have⟨r8,sc,aol⟩:=bf3 apf.2 r8 sc aol;have aom:=own_ext apf.2 aom;have⟨aop,aor,aot,aov,aox,aon⟩:=be5 apf.2 aop aor aot aov aox aon;refine go ?_;refine al inf36 (λ_ apg arc=>?_);have⟨r8,sc,aol⟩:=bf3 apg.2 r8 sc aol;have aom:=own_ext apg.2 aom;have⟨aop,aor,aot,aov,aox,aon⟩:=be5 apg.2 aop aor aot aov aox aon;refine SA arc (λ_ ao0 _=>?_);have⟨r8,sc,aol⟩:=pf3 ao0 r8 sc aol;have aom:=own_put ao0 (by simp[Value.ownBlock];omega) aom;have⟨aop,aor,aot,aov,aox,aon,_⟩:=pl5 ao0 aop aor aot aov aox aon;refine go ?_;refine c_an 5 ?_;refine sf ?_;refine sf_ae (V:=.agg #[.int .i64 ((((pl):Nat):Int)),S (nS (10^pl))]) (λ_ _ ao1 _=>?_) ?_;refine clb en1035 (hc:=spAt_ok om (ht.ext (xt aon ao1))) (hk:=?_);rintro _ _ ao2 rfl;have ard:=ao2.2;refine go ?_;exact fs ⟨ard,rfl⟩;refine sf_ap (λ_ _ _ _=>by refine l_op (k_field (cs:=[.int .i64 ((((pl):Nat):Int)),S (nS (10^pl))]) (v:=S (nS (10^pl))) U1054 rfl rfl rfl U9 rfl rfl rfl ?_);refine go ?_;exact finp) ?_;refine sf_ae (V:=.agg #[S ([49]),S (nS (10^pl))]) (λ_ _ _ _=>?_) ?_;refine cl en1026 spRatio_ok ?_;rintro _ _ ao3 rfl;have arf:=ao3.2;refine go ?_;exact fs ⟨arf,rfl⟩;refine sf ?_;intro _ _ ao4 _;have⟨r8,sc,aol⟩:=bf3 ao4.2 r8 sc aol
 have aom:=own_ext ao4.2 aom;have aon:=xt aon ao4.2;refine cl en49 (qCmpL rfl step_q wqa ones (ht.ext aon)) ?_;rintro _ _ ao5 rfl;have⟨r8,sc,aol⟩:=bf3 ao5.2 r8 sc aol;have aom:=own_ext ao5.2 aom;have aon:=xt aon ao5.2;refine go ?_;refine c_false (congrArg Value.bool (decide_eq_false (width_gt hno (ten_pos pl)))) ?_;refine go ?_;refine l_op (k_add (a:=((0:Nat):Int)) (b:=1) (c:=(((0+1:Nat)):Int)) aqm rfl (by unfold In64;omega) dc ?_);refine go ?_;exact lend (hk:=by decide) ⟨0+1,rfl,rfl,dc,om,aon,r8,sc,aol,aom⟩;obtain rfl:i=1:=by omega
 refine go ?_;obtain⟨bk,oo,hA,hcl⟩:=(Rw.of_own aom).cells 1 _ rfl;refine l_op (k_indexAddr (i:=1) (oo:=oo+1) U24 sz3 rfl hA aqm dc rfl ?_);refine l_op (k_load (v:=.int .i64 40) U3 rfl rfl hcl ?_);refine go ?_;refine l_op (k_add (a:=(pl:Int)) (b:=40) (c:=((pl+40:Nat):Int)) rfl rfl (by unfold In64;omega) om ?_);refine clb en1035 (hc:=spAt_ok om (ht.ext aon)) (hk:=?_);rintro _ _ aqq rfl;have⟨r8,sc,aol,aon⟩:=be3 aqq.2 r8 sc aol aon;refine al inf1054 (λ_ aqr arh=>?_);have⟨r8,sc,aol,aon⟩:=be3 aqr.2 r8 sc aol aon;refine SA arh (λ_ aqg aoo=>?_);have⟨r8,sc,aol,aon,_⟩:=pl3 aqg r8 sc aol aon;refine go ?_;refine l_op (clV (f:=g) (lb:=lb) (vs:=[.agg #[.int .i64 ((((pl+40):Nat):Int)),S (nS (10^(pl+40)))],.agg #[S l,S m]]) hg rfl rfl (cArr (hbd2 _ aon)) ?_);rintro _ _ aqh rfl;have⟨r8,sc,aol,aoo,aon⟩:=be4 aqh.2 r8 sc aol aoo aon;refine al inf1056 (λ_ aqi ari=>?_);have⟨r8,sc,aol,aoo,aon⟩:=be4 aqi.2 r8 sc aol aoo aon;refine SA ari (λ_ ap8 aoq=>?_);have⟨r8,sc,aol,aoo,aon,_⟩:=pl4 ap8 r8 sc aol aoo aon;refine go ?_;refine cl en1046 (rMakeZ_ok rfl rfl zb1.fz.1 zb1.fz.2 (Int.ne_of_gt zb1.2.1) (ht.ext aon)) ?_;rintro _ _ ap9 rfl;have⟨r8,sc,aol,aoo,aoq,aon⟩:=be5 ap9.2 r8 sc aol aoo aoq aon;refine go ?_;refine al inf36 (λ_ aqa arj=>?_);have⟨r8,sc,aol,aoo,aoq,aon⟩:=be5 aqa.2 r8 sc aol aoo aoq aon;refine SA arj (λ_ ap2 aos=>?_)
 have⟨r8,sc,aol,aoo,aoq,aon,_⟩:=pl5 ap2 r8 sc aol aoo aoq aon;refine go ?_;refine cl en1046 (rMakeZ_ok rfl rfl zb2.fz.1 zb2.fz.2 (Int.ne_of_gt zb2.2.1) (ht.ext aon)) ?_;rintro _ _ ap3 rfl;have⟨r8,sc,aol,aoo,aoq⟩:=bf5 ap3.2 r8 sc aol aoo aoq;have⟨aos,aon⟩:=be1 ap3.2 aos aon;refine go ?_;refine al inf36 (λ_ ap4 ark=>?_);have⟨r8,sc,aol,aoo,aoq⟩:=bf5 ap4.2 r8 sc aol aoo aoq;have⟨aos,aon⟩:=be1 ap4.2 aos aon;refine SA ark (λ_ apw aou=>?_);have⟨r8,sc,aol,aoo,aoq⟩:=pf5 apw r8 sc aol aoo aoq;have⟨aos,aon,_⟩:=pl1 apw aos aon;refine go ?_;refine l_op (k_build (vs:=[(0,QV r2.1 (tenI (pl+40))),(1,QV r2.2 (tenI (pl+40)))]) (cells:=#[S ((qR r2.1 (tenI (pl+40))).1),S ((qR r2.1 (tenI (pl+40))).2),S ((qR r2.2 (tenI (pl+40))).1),S ((qR r2.2 (tenI (pl+40))).2)]) (pl:=[(0,2),(2,2)]) U1032 inf1032 (by kernel_rfl) rfl (by kernel_rfl) ?_);refine go ?_;refine clb en1048 (hc:=cEq (Y:=.tuple #[IV f2 (tenI pl) c2 (tenI pl),.int .i64 0]) (round_ok (x:=(qR r2.1 (tenI (pl+40)),qR r2.2 (tenI (pl+40)))) rfl rfl zb1 zb2 (Int.mul_le_mul_of_nonneg_right hC2.le (Int.le_of_lt zb1.2.1)) om (ht.ext aon)) (by rw[hC2.hf,hC2.hc])) (hk:=?_);rintro _ aqw apx rfl;have⟨r8,sc,aol,aoo,aoq⟩:=bf5 apx.2 r8 sc aol aoo aoq;have⟨aos,aou,aon⟩:=be2 apx.2 aos aou aon;refine go ?_;refine al inf1032 (λ_ apy arl=>?_);have⟨r8,sc,aol,aoo,aoq⟩:=bf5 apy.2 r8 sc aol aoo aoq;have⟨aos,aou,aon⟩:=be2 apy.2 aos aou aon;refine SA arl (λ_ apl aow=>?_)
 have⟨r8,sc,aol,aoo,aoq⟩:=pf5 apl r8 sc aol aoo aoq;have⟨aos,aou,aon,_⟩:=pl2 apl aos aou aon;refine go ?_;refine l_op (k_loadA (cs:=[S ((qR f2 (tenI pl)).1),S ((qR f2 (tenI pl)).2),S ((qR c2 (tenI pl)).1),S ((qR c2 (tenI pl)).2)]) (b:=aqw.heap.size) (o:=0) U1032 rfl sz1032 rfl (Blk.cells aow (i:=0) rfl) ?_);refine cl en1049 (width_ok (x:=(qR f2 (tenI pl),qR c2 (tenI pl))) rfl rfl yb1 yb2 (Int.mul_le_mul_of_nonneg_right hC2.fc (Int.le_of_lt yb1.2.1)) (ht.ext aon)) ?_;rintro _ _ apm rfl;have⟨r8,sc,aol,aoo,aoq⟩:=bf5 apm.2 r8 sc aol aoo aoq;have⟨aos,aou,aow,aon⟩:=be3 apm.2 aos aou aow aon;refine go ?_;refine al inf36 (λ_ apn arm=>?_);have⟨r8,sc,aol,aoo,aoq⟩:=bf5 apn.2 r8 sc aol aoo aoq;have⟨aos,aou,aow,aon⟩:=be3 apn.2 aos aou aow aon;refine SA arm (λ_ ao6 aoy=>?_);have⟨r8,sc,aol,aoo,aoq⟩:=pf5 ao6 r8 sc aol aoo aoq;have⟨aos,aou,aow,aon,_⟩:=pl3 ao6 aos aou aow aon;refine go ?_;refine c_an 5 ?_;refine sf ?_;refine sf_ae (V:=.agg #[.int .i64 ((((pl):Nat):Int)),S (nS (10^pl))]) (λ_ _ ao7 _=>?_) ?_;refine clb en1035 (hc:=spAt_ok om (ht.ext (xt aon ao7))) (hk:=?_);rintro _ _ ao8 rfl;have arn:=ao8.2;refine go ?_;exact fs ⟨arn,rfl⟩;refine sf_ap (λ_ _ _ _=>by refine l_op (k_field (cs:=[.int .i64 ((((pl):Nat):Int)),S (nS (10^pl))]) (v:=S (nS (10^pl))) U1054 rfl rfl rfl U9 rfl rfl rfl ?_);refine go ?_;exact finp) ?_
 refine sf_ae (V:=.agg #[S ([49]),S (nS (10^pl))]) (λ_ _ _ _=>?_) ?_;refine cl en1026 spRatio_ok ?_;rintro _ _ ao9 rfl;have aro:=ao9.2;refine go ?_;exact fs ⟨aro,rfl⟩;refine sf ?_;intro _ _ apa _;have⟨r8,sc,aol,aoo,aoq⟩:=bf5 apa.2 r8 sc aol aoo aoq;have⟨aos,aou,aow,aoy,aon⟩:=be4 apa.2 aos aou aow aoy aon;refine cl en49 (qCmpL rfl step_q wqb ones (ht.ext aon)) ?_;rintro _ _ apb rfl;have⟨r8,sc,aol,aoo,aoq⟩:=bf5 apb.2 r8 sc aol aoo aoq;have⟨aos,aou,aow,aoy,aon⟩:=be4 apb.2 aos aou aow aoy aon;refine go ?_;refine c_true (congrArg Value.bool (decide_eq_true (width_le hone (ten_pos pl)))) ?_;refine go ?_;refine l_op (k_loadA (cs:=[S ((qR f2 (tenI pl)).1),S ((qR f2 (tenI pl)).2),S ((qR c2 (tenI pl)).1),S ((qR c2 (tenI pl)).2)]) (b:=aqw.heap.size) (o:=0) U1032 rfl sz1032 rfl (Blk.cells aow (i:=0) rfl) ?_);refine SA aol (λ_ apc arp=>?_);have⟨r8,sc,aoo,aoq,aos⟩:=pf5 apc r8 sc aoo aoq aos;have⟨aou,aow,aoy,aon,_⟩:=pl3 apc aou aow aoy aon;refine go ?_;refine f_out (v:=.tuple #[IV f2 (tenI pl) c2 (tenI pl),.int .i64 0]) (res2 (r1:=.cell 6 33) (r2:=.tmp 7) rfl ?_ ?_) aon rfl;refine res_cellA (t:=6) (cs:=[S ((qR f2 (tenI pl)).1),S ((qR f2 (tenI pl)).2),S ((qR c2 (tenI pl)).1),S ((qR c2 (tenI pl)).2)]) (b:=aqu.heap.size) (o:=0) U1032 rfl sz1032 ?_ ?_;exact rfl;exact Blk.cells arp (i:=0) rfl;exact res_tmp (t:=7) (by exact rfl) _
set_option maxRecDepth 100000
theorem krSp17 {p:Prop}(h:p:=by kernel_rfl):p:=h
theorem sl1:([49]:List UInt8)=showI 1:=by decide +kernel
theorem Normal_lo {l m:List UInt8}{pl:Nat}{w:World}{a b:Int}(e:(l,m)=qR a b)(h:Q9 a b)(ha12:a.natAbs<10^12)(hb12:b<10^12)(hp:pl<=12)(hrt:rightB pl a b (-10000000000000) 1 10000000000000 1=true)(h8:¬0<cmpI (a*1) (-8*b))(hng:neg l=true)(ht:Tb w):
    CL 75 #[.agg #[S l,S m],.int .i64 pl] w (Ret w λv w'=>v=.tuple #[.agg #[S ([48]),S ([49]),S ((qR 1 (tenI pl)).1),S ((qR 1 (tenI pl)).2)],.int .i64 0]):=by
 have ones:=ten_q9 (k:=pl) (a:=1) dc om;refine f_in Tryz.func75 rfl ?_;refine go ?_;refine bx (λapn aps r8=>?_);have aom:=aps.2;refine al inf1032 (λ_ apo sc=>?_);have r8:=be apo.2 r8;have aom:=xt aom apo.2;refine go ?_;refine clb en1035 (hc:=spAt_ok (pl:=13) dc (ht.ext aom)) (hk:=?_);rintro _ _ ao5 rfl;have r8:=be ao5.2 r8;have sc:=be ao5.2 sc;have aom:=xt aom ao5.2;refine l_op (k_field (cs:=[.int .i64 (((13:Nat):Int)),S (nS (10^13))]) (v:=S (nS (10^13))) U1054 rfl rfl rfl U9 rfl rfl rfl ?_);refine l_op (k_addS (a:=[45]) (b:=nS (10^13)) rfl rfl (by decide +kernel) ?_);refine cl en1026 spRatio_ok ?_;rintro _ _ ao6 rfl;have r8:=be ao6.2 r8;have sc:=be ao6.2 sc;have aom:=xt aom ao6.2;refine clb en1035 (hc:=spAt_ok (pl:=13) dc (ht.ext aom)) (hk:=?_);rintro _ _ ao7 rfl;have r8:=be ao7.2 r8;have sc:=be ao7.2 sc;have aom:=xt aom ao7.2;refine l_op (k_field (cs:=[.int .i64 (((13:Nat):Int)),S (nS (10^13))]) (v:=S (nS (10^13))) U1054 rfl rfl rfl U9 rfl rfl rfl ?_);refine cl en1026 spRatio_ok ?_;rintro _ _ ao8 rfl;have r8:=be ao8.2 r8;have sc:=be ao8.2 sc;have aom:=xt aom ao8.2;refine cl en1026 spRatio_ok ?_;rintro _ _ ao9 rfl;have r8:=be ao9.2 r8;have sc:=be ao9.2 sc;have aom:=xt aom ao9.2
 refine cl en1026 spRatio_ok ?_;rintro _ apq apa rfl;have r8:=be apa.2 r8;have sc:=be apa.2 sc;have aom:=xt aom apa.2;refine l_op (k_build (vs:=[(0,.agg #[S (([45])++(nS (10^13))),S ([49])]),(1,.agg #[S (nS (10^13)),S ([49])]),(2,.agg #[S ([48]),S ([49])]),(3,.agg #[S ([49]),S ([50])]),(4,.func (.func 124) #[] #[])]) (cells:=#[S (([45])++(nS (10^13))),S ([49]),S (nS (10^13)),S ([49]),S ([48]),S ([49]),S ([49]),S ([50]),.func (.func 124) #[] #[]]) (pl:=[(0,2),(2,2),(4,2),(6,2),(8,1)]) U1052 inf1052 krSp17 rfl krSp17 ?_);refine al inf1052 (λ_ apb apt=>?_);have r8:=be apb.2 r8;have sc:=be apb.2 sc;have aom:=xt aom apb.2;refine SA apt (λ_ aot aol=>?_);have r8:=pb aot r8;have sc:=pb aot sc;have aom:=plw aot aom;have aqe:=psz aot;refine go ?_;refine c_an 13 ?_;refine sf_ap (λ_ _ apc _=>by have aol:=be apc aol;refine l_op (k_loadA (cs:=[S (([45])++(nS (10^13))),S ([49]),S (nS (10^13)),S ([49]),S ([48]),S ([49]),S ([49]),S ([50]),.func (.func 124) #[] #[]]) (b:=apq.heap.size) (o:=0) U1052 rfl sz1052 rfl (Blk.cells aol (i:=0) rfl) ?_);refine go ?_;exact finp) ?_
 refine sf ?_;refine sf_ae (V:=.bool true) (λ_ _ aou _=>?_) ?_;refine cl en1042 (cB (isRight_ok e h ha12 hb12 qn13 q9n13 qp13 q9p13 rfl (ht.ext (xt aom aou))) hrt) ?_;rintro _ _ aov rfl;have apu:=aov.2;refine go ?_;exact fs ⟨apu,rfl⟩;refine sf ?_;refine sf_ae (V:=.agg #[S ([45,56]),S ([49])]) (λ_ _ _ _=>?_) ?_;refine go ?_;refine cl en1026 spRatio_ok ?_;rintro _ _ aow rfl;have apv:=aow.2;refine go ?_;exact fs ⟨apv,rfl⟩;refine sf_ae (V:=.int .i64 (cmpI (a*1) (-8*b))) (λ_ _ aox _=>?_) ?_;refine go ?_;refine cl en49 (qCmpL e qn8 h q9n8 (ht.ext (xt aom aox))) ?_;rintro _ _ aoy rfl;have apw:=aoy.2;refine go ?_;exact fs ⟨apw,rfl⟩;refine sf ?_;intro _ _ aoz _;have r8:=be aoz.2 r8;have sc:=be aoz.2 sc;have aol:=be aoz.2 aol;have aom:=xt aom aoz.2;with_reducible refine l_drop rfl ?_
 refine go ?_;refine clb en1035 (hc:=spAt_ok (pl:=(pl)) om (ht.ext aom)) (hk:=?_);rintro _ _ ao0 rfl;have r8:=be ao0.2 r8;have sc:=be ao0.2 sc;have aol:=be ao0.2 aol;have aom:=xt aom ao0.2;refine l_op (k_field (cs:=[.int .i64 ((((pl):Nat):Int)),S (nS (10^pl))]) (v:=S (nS (10^pl))) U1054 rfl rfl rfl U9 rfl rfl rfl ?_);refine cl en1046 (rMakeZ_ok (b:=tenI pl) sl1 rfl ones.fz.1 ones.fz.2 (Int.ne_of_gt ones.2.1) (ht.ext aom)) ?_;rintro _ _ ao1 rfl;have r8:=be ao1.2 r8;have sc:=be ao1.2 sc;have aol:=be ao1.2 aol;have aom:=xt aom ao1.2;refine go ?_;refine al inf36 (λ_ ao2 apx=>?_);have r8:=be ao2.2 r8;have sc:=be ao2.2 sc;have aol:=be ao2.2 aol;have aom:=xt aom ao2.2;refine SA apx (λ_ aoo aon=>?_);have r8:=pb aoo r8;have sc:=pb aoo sc;have aol:=pb aoo aol;have aom:=plw aoo aom;have ary:=psz aoo;refine go ?_;refine cl en142 (cEq (Y:=.bool true) (hasPrefix_ok _ _) (congrArg Value.bool hng)) ?_;rintro _ _ aop rfl;have r8:=be aop.2 r8;have sc:=be aop.2 sc;have aol:=be aop.2 aol;have aon:=be aop.2 aon;have aom:=xt aom aop.2;refine go ?_;refine c_an 2 ?_;refine sf_ae (V:=.agg #[S ([48]),S ([49])]) (λ_ _ _ _=>?_) ?_;refine cl en1026 spRatio_ok ?_;rintro _ _ aoq rfl;have apy:=aoq.2
 refine go ?_;exact fs ⟨apy,rfl⟩;refine sf ?_;intro _ _ aor _;have r8:=be aor.2 r8;have sc:=be aor.2 sc;have aol:=be aor.2 aol;have aon:=be aor.2 aon;have aom:=xt aom aor.2;refine l_op (k_build (vs:=[(0,.agg #[S ([48]),S ([49])]),(1,QV 1 (tenI pl))]) (cells:=#[S ([48]),S ([49]),S ((qR 1 (tenI pl)).1),S ((qR 1 (tenI pl)).2)]) (pl:=[(0,2),(2,2)]) U1032 inf1032 krSp17 rfl krSp17 ?_);refine SA sc (λ_ aos apz=>?_);have r8:=pb aos r8;have aol:=pb aos aol;have aon:=pb aos aon;have aom:=plw aos aom;have asd:=psz aos;refine go ?_;refine f_out (v:=.tuple #[.agg #[S ([48]),S ([49]),S ((qR 1 (tenI pl)).1),S ((qR 1 (tenI pl)).2)],.int .i64 0]) (res2 (r1:=.cell 4 33) (r2:=.tmp 5) rfl ?_ ?_) aom rfl;refine res_cellA (t:=4) (cs:=[S ([48]),S ([49]),S ((qR 1 (tenI pl)).1),S ((qR 1 (tenI pl)).2)]) (b:=apn.heap.size) (o:=0) U1032 rfl sz1032 ?_ ?_;exact rfl;exact Blk.cells apz (i:=0) rfl;exact res_tmp (t:=5) (by exact rfl) _
theorem Normal_hi {l m:List UInt8}{pl:Nat}{w:World}{a b:Int}(e:(l,m)=qR a b)(h:Q9 a b)(ha12:a.natAbs<10^12)(hb12:b<10^12)(hp:pl<=12)(hrt:rightB pl a b (-10000000000000) 1 10000000000000 1=true)(h8:0<cmpI (a*1) (-8*b))(h9:¬cmpI (a*1) (8*b)<0)(hng:neg l=false)(ht:Tb w):
    CL 75 #[.agg #[S l,S m],.int .i64 pl] w (Ret w λv w'=>v=.tuple #[.agg #[S ((qR (1*tenI pl-1*1) (1*tenI pl)).1),S ((qR (1*tenI pl-1*1) (1*tenI pl)).2),S ([49]),S ([49])],.int .i64 0]):=by
 have ones:=ten_q9 (k:=pl) (a:=1) dc om;refine f_in Tryz.func75 rfl ?_;refine go ?_;refine bx (λapo aro sc=>?_);have r8:=aro.2;refine al inf1032 (λ_ aq2 aol=>?_);have sc:=be aq2.2 sc;have r8:=xt r8 aq2.2;refine go ?_;refine clb en1035 (hc:=spAt_ok (pl:=13) dc (ht.ext r8)) (hk:=?_);rintro _ _ aqb rfl;have sc:=be aqb.2 sc;have aol:=be aqb.2 aol;have r8:=xt r8 aqb.2;refine l_op (k_field (cs:=[.int .i64 (((13:Nat):Int)),S (nS (10^13))]) (v:=S (nS (10^13))) U1054 rfl rfl rfl U9 rfl rfl rfl ?_);refine l_op (k_addS (a:=[45]) (b:=nS (10^13)) rfl rfl (by decide +kernel) ?_);refine cl en1026 spRatio_ok ?_;rintro _ _ aqc rfl;have sc:=be aqc.2 sc;have aol:=be aqc.2 aol;have r8:=xt r8 aqc.2;refine clb en1035 (hc:=spAt_ok (pl:=13) dc (ht.ext r8)) (hk:=?_);rintro _ _ aqd rfl;have sc:=be aqd.2 sc;have aol:=be aqd.2 aol;have r8:=xt r8 aqd.2;refine l_op (k_field (cs:=[.int .i64 (((13:Nat):Int)),S (nS (10^13))]) (v:=S (nS (10^13))) U1054 rfl rfl rfl U9 rfl rfl rfl ?_);refine cl en1026 spRatio_ok ?_;rintro _ _ aqe rfl;have sc:=be aqe.2 sc;have aol:=be aqe.2 aol;have r8:=xt r8 aqe.2;refine cl en1026 spRatio_ok ?_;rintro _ _ aqf rfl;have sc:=be aqf.2 sc;have aol:=be aqf.2 aol;have r8:=xt r8 aqf.2
 refine cl en1026 spRatio_ok ?_;rintro _ aqg aqh rfl;have sc:=be aqh.2 sc;have aol:=be aqh.2 aol;have r8:=xt r8 aqh.2;refine l_op (k_build (vs:=[(0,.agg #[S (([45])++(nS (10^13))),S ([49])]),(1,.agg #[S (nS (10^13)),S ([49])]),(2,.agg #[S ([48]),S ([49])]),(3,.agg #[S ([49]),S ([50])]),(4,.func (.func 124) #[] #[])]) (cells:=#[S (([45])++(nS (10^13))),S ([49]),S (nS (10^13)),S ([49]),S ([48]),S ([49]),S ([49]),S ([50]),.func (.func 124) #[] #[]]) (pl:=[(0,2),(2,2),(4,2),(6,2),(8,1)]) U1052 inf1052 krSp17 rfl krSp17 ?_);refine al inf1052 (λ_ aqi arp=>?_);have sc:=be aqi.2 sc;have aol:=be aqi.2 aol;have r8:=xt r8 aqi.2;refine SA arp (λ_ apq aom=>?_);have sc:=pb apq sc;have aol:=pb apq aol;have r8:=plw apq r8;have aue:=psz apq;refine go ?_;refine c_an 13 ?_;refine sf_ap (λ_ _ aqj _=>by have aom:=be aqj aom;refine l_op (k_loadA (cs:=[S (([45])++(nS (10^13))),S ([49]),S (nS (10^13)),S ([49]),S ([48]),S ([49]),S ([49]),S ([50]),.func (.func 124) #[] #[]]) (b:=aqg.heap.size) (o:=0) U1052 rfl sz1052 rfl (Blk.cells aom (i:=0) rfl) ?_);refine go ?_;exact finp) ?_
 refine sf ?_;refine sf_ae (V:=.bool true) (λ_ _ apr _=>?_) ?_;refine cl en1042 (cB (isRight_ok e h ha12 hb12 qn13 q9n13 qp13 q9p13 rfl (ht.ext (xt r8 apr))) hrt) ?_;rintro _ _ aps rfl;have arq:=aps.2;refine go ?_;exact fs ⟨arq,rfl⟩;refine sf ?_;refine sf_ae (V:=.agg #[S ([45,56]),S ([49])]) (λ_ _ _ _=>?_) ?_;refine go ?_;refine cl en1026 spRatio_ok ?_;rintro _ _ apt rfl;have arr:=apt.2;refine go ?_;exact fs ⟨arr,rfl⟩;refine sf_ae (V:=.int .i64 (cmpI (a*1) (-8*b))) (λ_ _ apu _=>?_) ?_;refine go ?_;refine cl en49 (qCmpL e qn8 h q9n8 (ht.ext (xt r8 apu))) ?_;rintro _ _ apv rfl;have ars:=apv.2;refine go ?_;exact fs ⟨ars,rfl⟩;refine sf ?_;refine sf_ae (V:=.agg #[S ([56]),S ([49])]) (λ_ _ _ _=>?_) ?_;refine go ?_;refine cl en1026 spRatio_ok ?_;rintro _ _ apw rfl;have art:=apw.2;refine go ?_;exact fs ⟨art,rfl⟩;refine sf ?_;intro _ _ apx _;have sc:=be apx.2 sc;have aol:=be apx.2 aol;have aom:=be apx.2 aom;have r8:=xt r8 apx.2;with_reducible refine l_drop rfl ?_
 refine go ?_;refine cl en49 (qCmpL e qp8 h q9p8 (ht.ext r8)) ?_;rintro _ _ apy rfl;have sc:=be apy.2 sc;have aol:=be apy.2 aol;have aom:=be apy.2 aom;have r8:=xt r8 apy.2;refine go ?_;refine clb en1035 (hc:=spAt_ok (pl:=(pl)) om (ht.ext r8)) (hk:=?_);rintro _ _ apz rfl;have sc:=be apz.2 sc;have aol:=be apz.2 aol;have aom:=be apz.2 aom;have r8:=xt r8 apz.2;refine l_op (k_field (cs:=[.int .i64 ((((pl):Nat):Int)),S (nS (10^pl))]) (v:=S (nS (10^pl))) U1054 rfl rfl rfl U9 rfl rfl rfl ?_);refine cl en1046 (rMakeZ_ok (b:=tenI pl) sl1 rfl ones.fz.1 ones.fz.2 (Int.ne_of_gt ones.2.1) (ht.ext r8)) ?_;rintro _ aqu ap0 rfl;have sc:=be ap0.2 sc;have aol:=be ap0.2 aol;have aom:=be ap0.2 aom;have r8:=xt r8 ap0.2;refine go ?_;refine al inf36 (λ_ ap1 aru=>?_);have sc:=be ap1.2 sc;have aol:=be ap1.2 aol;have aom:=be ap1.2 aom;have r8:=xt r8 ap1.2;refine SA aru (λ_ apd aqv=>?_);have sc:=pb apd sc;have aol:=pb apd aol;have aom:=pb apd aom;have r8:=plw apd r8;have av0:=psz apd;refine go ?_;refine cl en142 (cEq (Y:=.bool false) (hasPrefix_ok _ _) (congrArg Value.bool hng)) ?_;rintro _ aqw ape rfl;have sc:=be ape.2 sc;have aol:=be ape.2 aol;have aom:=be ape.2 aom;have aqv:=be ape.2 aqv;have r8:=xt r8 ape.2
 refine go ?_;have ao3:=Ext.drew aqw;refine c_st2 hmix 8 (λe0 ls e W=>∃aor:Nat,(∀t,inB [9,57,58,59,60,61,62] t=false->e t=e0 t)∧(Ext w W)∧(aqw.heap.size<=W.heap.size)∧(ls 0=true->e 58=.agg #[S ([49]),S ([49])])∧(ls 1=true->e 59=QV 1 (tenI pl))∧(ls 2=true->e 60=.tuple #[QV (1*tenI pl-1*1) (1*tenI pl),.int .i64 0])∧(ls 3=true->e 57=.tuple #[QV (1*tenI pl-1*1) (1*tenI pl),.int .i64 0])∧(ls 4=true->e 61=QV (1*tenI pl-1*1) (1*tenI pl))∧(ls 5=true->e 62=.int .i64 0)∧(ls 6=true->e 9=pT aor)∧(ls 6=true->aqw.heap.size<=aor)∧(Blk W (w.heap.size) 25 #[S l,S m])∧(Blk W (apo.heap.size) 33 #[S ([]),S ([]),S ([]),S ([])])∧(Blk W (aqg.heap.size) 141 #[S (([45])++(nS (10^13))),S ([49]),S (nS (10^13)),S ([49]),S ([48]),S ([49]),S ([49]),S ([50]),.func (.func 124) #[] #[]])∧(Blk W (aqu.heap.size) 25 #[S ((qR 1 (tenI pl)).1),S ((qR 1 (tenI pl)).2)])∧(ls 6=true->ls 7=false->Blk W aor 25 #[S ([]),S ([])])∧(ls 7=true->Blk W aor 25 #[S ((qR (1*tenI pl-1*1) (1*tenI pl)).1),S ((qR (1*tenI pl-1*1) (1*tenI pl)).2)])) ⟨0,(λ_ _=>rfl),(xt r8 ao3),(bz ao3),(ff rfl),(ff rfl),(ff rfl),(ff rfl),(ff rfl),(ff rfl),(ff rfl),(ff rfl),(be ao3 sc),(be ao3 aol),(be ao3 aom),(be ao3 aqv),(λh _=>ff rfl h),(λh=>ff rfl h)⟩ krSp17 krSp17 ?_ ?_
 refine⟨λav2 _ apf arv apg aq3 _=>?_,?_⟩;obtain⟨aor,arw,r8,zst,aov,aow,aox,aos,aoy,aoz,aot,aou,aoo,aoq,aop,aon,ao0,ao2⟩:=arv;obtain⟨av2,rfl⟩:=ovE arw;have arx:apf 2=false:=(unl apg (i:=0) (j:=2) rfl aq3);have ary:apf 7=false:=(unl apg (i:=0) (j:=7) rfl aq3);have aq4:apf 3=false:=(unl apg (i:=2) (j:=3) rfl arx);have av5:apf 4=false:=(unl apg (i:=3) (j:=4) rfl aq4);have av6:apf 5=false:=(unl apg (i:=3) (j:=5) rfl aq4);have av7:=bz r8;have ap2:=bt aoo;have ap3:=bt aoq;have ap4:=bt aop;have ap5:=bt aon;refine cl en1026 spRatio_ok ?_;rintro _ _ ao4 rfl;have aoo:=be ao4.2 aoo;have aoq:=be ao4.2 aoq;have aop:=be ao4.2 aop;have aon:=be ao4.2 aon;have r8:=xt r8 ao4.2;refine go ?_;exact⟨rfl,_,(act_put _ _ _ _ _).symm,aor,(same_upd rfl arw),r8,om,(λ_=>rfl),aow,aox,aos,aoy,aoz,aot,aou,(aoo),(aoq),(aop),(aon),(λarz ar0=>(be ao4.2 (ao0 arz ar0))),(λar1=>ff ary ar1)⟩;refine⟨λawa _ aph ar2 api aq5 _=>?_,?_⟩;obtain⟨aor,aq6,r8,zst,aov,aow,aox,aos,aoy,aoz,aot,aou,aoo,aoq,aop,aon,ao0,ao2⟩:=ar2;obtain⟨awa,rfl⟩:=ovE aq6;have ar3:aph 2=false:=(unl api (i:=1) (j:=2) rfl aq5);have ar4:aph 7=false:=(unl api (i:=1) (j:=7) rfl aq5);have aq7:aph 3=false:=(unl api (i:=2) (j:=3) rfl ar3);have awd:aph 4=false:=(unl api (i:=3) (j:=4) rfl aq7)
 have awe:aph 5=false:=(unl api (i:=3) (j:=5) rfl aq7);have awf:=bz r8;refine go ?_;exact⟨rfl,_,(act_put _ _ _ _ _).symm,aor,(same_upd rfl aq6),r8,om,aov,(λ_=>rfl),aox,aos,aoy,aoz,aot,aou,(aoo),(aoq),(aop),(aon),(λar5 ar6=>ao0 ar5 ar6),(λar7=>ff ar4 ar7)⟩;refine⟨λaq8 _ ao5 ar8 ap6 aq9 ara=>?_,?_⟩;obtain⟨aor,ar9,r8,zst,aov,aow,aox,aos,aoy,aoz,aot,aou,aoo,aoq,aop,aon,ao0,ao2⟩:=ar8;obtain⟨aq8,rfl⟩:=ovE ar9;have asa:ao5 0=true:=(ara 0 rfl);have asb:ao5 1=true:=(ara 1 rfl);have arb:ao5 3=false:=(unl ap6 (i:=2) (j:=3) rfl aq9);have asc:ao5 7=false:=(unl ap6 (i:=2) (j:=7) rfl aq9);have awh:ao5 4=false:=(unl ap6 (i:=3) (j:=4) rfl arb);have awi:ao5 5=false:=(unl ap6 (i:=3) (j:=5) rfl arb);have asd:aq8 58=.agg #[S ([49]),S ([49])]:=aov asa;have ase:aq8 59=QV 1 (tenI pl):=aow asb;have awj:=bz r8;have ap2:=bt aoo;have ap3:=bt aoq;have ap4:=bt aop;have ap5:=bt aon;refine cl en220 (qSubL q11 rfl q9l1 ones (ht.ext r8)) ?_ (cons_eq asd (cons_eq ase rfl));rintro _ _ ao6 rfl;have aoo:=be ao6.2 aoo;have aoq:=be ao6.2 aoq;have aop:=be ao6.2 aop;have aon:=be ao6.2 aon;have r8:=xt r8 ao6.2;refine go ?_;exact⟨rfl,_,(act_put _ _ _ _ _).symm,aor,(same_upd rfl ar9),r8,om,aov,aow,(λ_=>rfl),aos,aoy,aoz,aot,aou,(aoo),(aoq),(aop),(aon),(λasf asg=>(be ao6.2 (ao0 asf asg))),(λash=>ff asc ash)⟩
 refine⟨λasi _ ao7 asj apj aqx ask=>?_,?_⟩;obtain⟨aor,asl,r8,zst,aov,aow,aox,aos,aoy,aoz,aot,aou,aoo,aoq,aop,aon,ao0,ao2⟩:=asj;obtain⟨asi,rfl⟩:=ovE asl;have aqy:ao7 2=true:=(ask 2 rfl);have awn:ao7 0=true:=(apj 2 0 rfl aqy);have awo:ao7 1=true:=(apj 2 1 rfl aqy);have awp:ao7 4=false:=(unl apj (i:=3) (j:=4) rfl aqx);have awq:ao7 5=false:=(unl apj (i:=3) (j:=5) rfl aqx);have asm:ao7 7=false:=(unl apj (i:=3) (j:=7) rfl aqx);have aso:asi 60=.tuple #[QV (1*tenI pl-1*1) (1*tenI pl),.int .i64 0]:=aox aqy;have awr:=bz r8;refine go ?_;exact⟨rfl,_,(act_put _ _ _ _ _).symm,aor,(same_upd rfl asl),r8,om,aov,aow,aox,(λ_=>rfl),aoy,aoz,aot,aou,(aoo),(aoq),(aop),(aon),(λasp asq=>ao0 asp asq),(λasr=>ff asm asr)⟩;refine⟨λass _ apk ast ap7 asu asv=>?_,?_⟩;obtain⟨aor,asw,r8,zst,aov,aow,aox,aos,aoy,aoz,aot,aou,aoo,aoq,aop,aon,ao0,ao2⟩:=ast;obtain⟨ass,rfl⟩:=ovE asw;have arc:apk 3=true:=(asv 3 rfl);have ard:apk 2=true:=(ap7 3 2 rfl arc);have awt:apk 0=true:=(ap7 2 0 rfl ard);have awu:apk 1=true:=(ap7 2 1 rfl ard);have asx:apk 7=false:=(unl ap7 (i:=4) (j:=7) rfl asu);have asy:ass 57=.tuple #[QV (1*tenI pl-1*1) (1*tenI pl),.int .i64 0]:=aos arc;have awv:=bz r8
 refine go ?_;exact⟨rfl,_,(act_put _ _ _ _ _).symm,aor,(same_upd rfl asw),r8,om,aov,aow,aox,aos,(λ_=>rfl),aoz,aot,aou,(aoo),(aoq),(aop),(aon),(λasz as0=>ao0 asz as0),(λas1=>ff asx as1)⟩;refine⟨λas2 _ ap8 as3 aqz _ as4=>?_,?_⟩;obtain⟨aor,as5,r8,zst,aov,aow,aox,aos,aoy,aoz,aot,aou,aoo,aoq,aop,aon,ao0,ao2⟩:=as3;obtain⟨as2,rfl⟩:=ovE as5;have arf:ap8 3=true:=(as4 3 rfl);have arh:ap8 2=true:=(aqz 3 2 rfl arf);have awy:ap8 0=true:=(aqz 2 0 rfl arh);have awz:ap8 1=true:=(aqz 2 1 rfl arh);have as6:as2 57=.tuple #[QV (1*tenI pl-1*1) (1*tenI pl),.int .i64 0]:=aos arf;have aw0:=bz r8;refine go ?_;exact⟨rfl,_,(act_put _ _ _ _ _).symm,aor,(same_upd rfl as5),r8,om,aov,aow,aox,aos,aoy,(λ_=>rfl),aot,aou,(aoo),(aoq),(aop),(aon),(λas7 as8=>ao0 as7 as8),(λas9=>ao2 as9)⟩;refine⟨λaw1 ata atb atc atd ate _=>?_,?_⟩;obtain⟨aor,atf,r8,zst,aov,aow,aox,aos,aoy,aoz,aot,aou,aoo,aoq,aop,aon,ao0,ao2⟩:=atc;obtain⟨aw1,rfl⟩:=ovE atf;have atg:atb 7=false:=(unl atd (i:=6) (j:=7) rfl ate);have aw3:=bz r8;have ap2:=bt aoo;have ap3:=bt aoq;have ap4:=bt aop;have ap5:=bt aon;refine al inf36 (λ_ apl ath=>?_);have aoo:=be apl.2 aoo;have aoq:=be apl.2 aoq;have aop:=be apl.2 aop;have aon:=be apl.2 aon
 have r8:=xt r8 apl.2;refine go ?_;exact⟨rfl,_,(act_put _ _ _ _ _).symm,ata.heap.size,(same_upd rfl atf),r8,om,aov,aow,aox,aos,aoy,aoz,(λ_=>rfl),(λ_=>om),(aoo),(aoq),(aop),(aon),(λ_ _=>ath),(λati=>ff atg ati)⟩;refine⟨λari _ ao8 atj ap9 atk arj=>?_,?_⟩;obtain⟨aor,atl,r8,zst,aov,aow,aox,aos,aoy,aoz,aot,aou,aoo,aoq,aop,aon,ao0,ao2⟩:=atj;obtain⟨ari,rfl⟩:=ovE atl;have aq0:ao8 6=true:=(arj 6 rfl);have ark:ao8 4=true:=(arj 4 rfl);have atm:ao8 3=true:=(ap9 4 3 rfl ark);have arl:ao8 2=true:=(ap9 3 2 rfl atm);have aw8:ao8 0=true:=(ap9 2 0 rfl arl);have aw9:ao8 1=true:=(ap9 2 1 rfl arl);have atn:ari 61=QV (1*tenI pl-1*1) (1*tenI pl):=aoy ark;have ato:ari 9=pT aor:=aot aq0;have axa:=bz r8;have atp:=aou aq0;have ap2:=bt aoo;have ap3:=bt aoq;have ap4:=bt aop;have ap5:=bt aon;have arm:=ao0 aq0 atk;have axb:=bt arm;refine SA arm (λ_ ao9 atq=>?_);have aoo:=pb ao9 aoo;have aoq:=pb ao9 aoq;have aop:=pb ao9 aop;have aon:=pb ao9 aon;have r8:=plw ao9 r8;have axd:=psz ao9;refine go ?_;exact⟨rfl,undef,rfl,aor,atl,r8,om,aov,aow,aox,aos,aoy,aoz,aot,aou,(aoo),(aoq),(aop),(aon),(λ_ atr=>tf rfl atr),(λ_=>atq)⟩
 exact trivial;intro aq1 _ _ aqa att;obtain⟨aor,atu,r8,zst,aov,aow,aox,aos,aoy,aoz,aot,aou,aoo,aoq,aop,aon,ao0,ao2⟩:=att;obtain⟨aq1,rfl⟩:=ovE atu;have axi:=bz r8;have atp:=aou (aqa 6 rfl);have ap2:=bt aoo;have ap3:=bt aoq;have ap4:=bt aop;have ap5:=bt aon;have ao1:=ao2 (aqa 7 rfl);have axj:=bt ao1;have atv:aq1 62=.int .i64 (0):=(aoz (aqa 5 rfl));refine go ?_;have atw:aq1 9=pT aor:=(aot (aqa 6 rfl));refine c_an 2 ?_;refine sf ?_;refine sf_ae (V:=.agg #[S ([49]),S ([49])]) (λ_ _ _ _=>?_) ?_;refine cl en1026 spRatio_ok ?_;rintro _ _ apa rfl;have atx:=apa.2;refine go ?_;exact fs ⟨atx,rfl⟩;refine sf ?_;intro _ _ apb _;have aoo:=be apb.2 aoo;have aoq:=be apb.2 aoq;have aop:=be apb.2 aop;have aon:=be apb.2 aon;have ao1:=be apb.2 ao1;have r8:=xt r8 apb.2;refine l_op (k_build (vs:=[(0,QV (1*tenI pl-1*1) (1*tenI pl)),(1,.agg #[S ([49]),S ([49])])]) (cells:=#[S ((qR (1*tenI pl-1*1) (1*tenI pl)).1),S ((qR (1*tenI pl-1*1) (1*tenI pl)).2),S ([49]),S ([49])]) (pl:=[(0,2),(2,2)]) U1032 inf1032 krSp17 rfl krSp17 ?_);refine SA aoq (λ_ apc aty=>?_);have aoo:=pb apc aoo;have aop:=pb apc aop;have aon:=pb apc aon;have ao1:=pb apc ao1
 have r8:=plw apc r8;have axw:=psz apc;refine go ?_;refine f_out (v:=.tuple #[.agg #[S ((qR (1*tenI pl-1*1) (1*tenI pl)).1),S ((qR (1*tenI pl-1*1) (1*tenI pl)).2),S ([49]),S ([49])],.int .i64 0]) (res2 (r1:=.cell 4 33) (r2:=.tmp 5) rfl ?_ ?_) r8 rfl;refine res_cellA (t:=4) (cs:=[S ((qR (1*tenI pl-1*1) (1*tenI pl)).1),S ((qR (1*tenI pl-1*1) (1*tenI pl)).2),S ([49]),S ([49])]) (b:=apo.heap.size) (o:=0) U1032 rfl sz1032 ?_ ?_;exact rfl;exact Blk.cells aty (i:=0) rfl;exact res_tmp (t:=5) (by exact rfl) _
end Go.Proofs.YtmehbpjpbbhohaaGreatDoor
namespace Go.Proofs.YtmehbpjpbbhohaaGreatDoor
open Go Go.Eng Go.RowKit
def CellV (pl:Nat)(f c:Int):Value:=.tuple #[.agg #[S (qR f (tenI pl)).1,S (qR f (tenI pl)).2,S (qR c (tenI pl)).1,S (qR c (tenI pl)).2],.int .i64 0]
def FindR (pl:Nat)(bd:Nat->Option (Int×Int))(f c:Int):Prop:=
  c<=f+1∧((∃r,bd 15=some r∧CellW 15 pl r f c)∨(∃r r2 f1 c1,bd 15=some r∧CellW 15 pl r f1 c1∧f1+1<c1∧bd 40=some r2∧CellW 40 pl r2 f c))
theorem FindR.uniq {pl:Nat}{bd:Nat->Option (Int×Int)}{f c f' c':Int}(h:FindR pl bd f c)(h':FindR pl bd f' c'):f=f'∧c=c':=by
  obtain⟨h1,⟨r,e,w⟩|⟨r,r2,f1,c1,e,w,n,e2,w2⟩⟩:=h <;>obtain⟨h1',⟨r',e',w'⟩|⟨r',r2',f1',c1',e',w',n',e2',w2'⟩⟩:=h'
  · rw[e]at e';cases e';exact⟨w.hf.symm.trans w'.hf,w.hc.symm.trans w'.hc⟩
  · rw[e]at e';cases e';have:=w.hf.symm.trans w'.hf;have:=w.hc.symm.trans w'.hc;omega
  · rw[e]at e';cases e';have:=w.hf.symm.trans w'.hf;have:=w.hc.symm.trans w'.hc;omega
  · rw[e2]at e2';cases e2';exact⟨w2.hf.symm.trans w2'.hf,w2.hc.symm.trans w2'.hc⟩
theorem cell_find {l m l1 m1 l2 m2 l3 m3 l4 m4:List UInt8}{g:Nat}{lb:List Value}{a b la lb0 ha hb:Int}{pl:Nat}{w:World}{bd:Nat->Option (Int×Int)}{f c:Int}(hF:FindR pl bd f c)(e:(l,m)=qR a b)(h:Q9 a b)(ha12:a.natAbs<10^12)(hb12:b<10^12)(e1:(l1,m1)=qR la lb0)(q1:Q9 la lb0)(e2:(l2,m2)=qR ha hb)(q2:Q9 ha hb)(hrt:rightB pl a b la lb0 ha hb=true)(hp:pl<=12)(hne:¬((l,m):R)=(l3,m3))(hg:Enters Tryz.prog g)(hbd:∀k r,k<=40->bd k=some r->∀W,Ext w W->CL g ([.agg #[.int .i64 ((pl+k:Nat):Int),S (nS (10^(pl+k)))],.agg #[S l,S m]].toArray++lb.toArray) W (Ret W λv _=>v=.agg #[S (showI r.1),S (showI r.2)]))(ht:Tb w):
    CL 126 #[.agg #[S l1,S m1,S l2,S m2,S l3,S m3,S l4,S m4,.func (.func g) #[] lb.toArray],.agg #[S l,S m],.int .i64 ((pl:Nat):Int)] w (Ret w λv _=>v=CellV pl f c):=by
  obtain⟨h1,⟨r,er,w⟩|⟨r,r2,f1,c1,er,w,n,er2,w2⟩⟩:=hF
  · exact cell_ok e h ha12 hb12 e1 q1 e2 q2 hrt hp hne hg (hbd 15 r dc er) (w.r h1) ht
  · exact cell_two e h ha12 hb12 e1 q1 e2 q2 hrt hp hne hg (hbd 15 r dc er) (hbd 40 r2 dc er2) w n w2 h1 ht
theorem cell_at2 {l m l1 m1 l2 m2 l3 m3 l4 m4:List UInt8}{g:Nat}{lb:List Value}{a b la lb0 ha hb va vb f c:Int}{pl:Nat}{w:World}(hf:flI va vb (tenI pl)=f)(hc:clI va vb (tenI pl)=c)(e:(l,m)=qR a b)(h:Q9 a b)(ha12:a.natAbs<10^12)(hb12:b<10^12)(e1:(l1,m1)=qR la lb0)(q1:Q9 la lb0)(e2:(l2,m2)=qR ha hb)(q2:Q9 ha hb)(e4:(l4,m4)=qR va vb)(q4:Q9 va vb)(hrt:rightB pl a b la lb0 ha hb=true)(hp:pl<=12)(heq:((l,m):R)=(l3,m3))(ht:Tb w):
    CL 126 #[.agg #[S l1,S m1,S l2,S m2,S l3,S m3,S l4,S m4,.func (.func g) #[] lb.toArray],.agg #[S l,S m],.int .i64 ((pl:Nat):Int)] w (Ret w λv _=>v=CellV pl f c):=by
  subst hf hc
  exact cell_at e h ha12 hb12 e1 q1 e2 q2 e4 q4 hrt hp heq ht
theorem rightB_ok {pl:Nat}{a b la lb ha hb:Int}(hp:pl<=12)(h1:la*b<=a*lb)(h2:a*hb<=ha*b):rightB pl a b la lb ha hb=true:=by
  unfold rightB
  rw[decide_eq_true om,decide_eq_true (cmpI_swap0.2 h1),decide_eq_true (cmpI_nonpos.2 h2)];rfl
theorem sc_pow {n:Nat}(h:n<=90):Sc (10^n):=⟨Nat.pow_pos dc,Nat.pow_lt_pow_right dc om⟩
theorem qR_ne {a b c d:Int}(hb:0<b)(hd:0<d){r:R}(e:r=qR c d)(h:a*d≠c*b):¬(((qR a b).1,(qR a b).2):R)=r:=λx=>h (qR_inj hb hd (x.trans e))
theorem q9_12 {a b:Int}(ha:a.natAbs<10^12)(h0:0<b)(hb:b<10^12):Q9 a b:=⟨Nat.lt_trans ha dc,h0,by omega⟩
section
variable {a b:Int}{pl:Nat}{f c:Int}{w:World}
theorem zero_q (hb:0<b)(h0:a=0):(((qR a b).1,(qR a b).2):R)=([48],[49]):=by
  have h:qR a b=qR 0 1:=qR_congr hb dc om
  rw[q01,<-h]
end
section
variable {a b:Int}{pl:Nat}{f c:Int}{w:World}
def nrmBd (pl:Nat)(a b:Int)(k:Nat):Option (Int×Int):=nrP (10^(pl+k)) (pl+k) (redN a b) (redD a b).toNat
theorem nrm_right (hb:0<b)(h9:a.natAbs<=1000000*b.natAbs)(hp:pl<=12):rightB pl a b (-10000000000000) 1 10000000000000 1=true:=rightB_ok hp om om
theorem normal_q (ha12:a.natAbs<10^12)(hb:0<b)(hb12:b<10^12)(h0:a≠0)(hlo:-8*b<a)(hhi:a<8*b)(hp:pl<=12)(hF:FindR pl (nrmBd pl a b) f c)(ht:Tb w):
    CL 75 #[.agg #[S (qR a b).1,S (qR a b).2],.int .i64 ((pl:Nat):Int)] w (Ret w λv _=>v=CellV pl f c):=by
  have q:=q9_12 ha12 hb hb12
  have hrt:=nrm_right (a:=a) (pl:=pl) hb om hp
  refine Normal_ok rfl q ha12 hb12 hrt (cmpI_gt0 om) (cmpI_lt0 om) (λW e=>cell_find (lb:=[]) hF rfl q ha12 hb12 qn13 q9n13 qp13 q9p13 hrt hp (qR_ne hb dc q01 om) en1051 ?_ (ht.ext e)) ht
  intro k r hk hr W' e'
  rw[qR_str hb]
  exact normal_ok (sc_pow om) om hr ((ht.ext e).ext e')
theorem normal_z (hb:0<b)(hb12:b<10^12)(h0:a=0)(hp:pl<=12)(ht:Tb w):
    CL 75 #[.agg #[S (qR a b).1,S (qR a b).2],.int .i64 ((pl:Nat):Int)] w (Ret w λv _=>v=CellV pl (flI 1 2 (tenI pl)) (clI 1 2 (tenI pl))):=by
  have ha12:a.natAbs<10^12:=by subst h0;decide
  have q:=q9_12 ha12 hb hb12
  have hz:=zero_q hb h0
  have hrt:=nrm_right (a:=a) (pl:=pl) hb om hp
  have q2:Q9 1 2:=⟨by decide,by decide,by decide⟩
  refine Normal_ok rfl q ha12 hb12 hrt (cmpI_gt0 om) (cmpI_lt0 om) (λW e=>?_) ht
  exact cell_at2 (lb:=[]) rfl rfl rfl q ha12 hb12 qn13 q9n13 qp13 q9p13 q12 q2 hrt hp hz (ht.ext e)
theorem neg_q (hb:0<b):neg (qR a b).1=decide (a<0):=by
  show neg (showI (redN a b))=_
  rw[neg_showI]
  have h1:=rq_n (n:=a) hb
  have h2:=gcd_pos (n:=a) hb
  generalize ((Int.gcd a b:Nat):Int)=g at *
  generalize redN a b=x at *
  subst h1
  by_cases h:x<0
  · rw[decide_eq_true h,decide_eq_true (Int.mul_neg_of_neg_of_pos h h2)]
  · rw[decide_eq_false h,decide_eq_false (by have:=Int.mul_nonneg (show 0<=x by omega) (Int.le_of_lt h2);omega)]
theorem normal_lo (ha12:a.natAbs<10^12)(hb:0<b)(hb12:b<10^12)(hlo:a<=-8*b)(h9:a.natAbs<=1000000*b.natAbs)(hp:pl<=12)(ht:Tb w):
    CL 75 #[.agg #[S (qR a b).1,S (qR a b).2],.int .i64 ((pl:Nat):Int)] w (Ret w λv _=>v=CellV pl 0 1):=by
  have h:=Normal_lo (l:=(qR a b).1) (m:=(qR a b).2) rfl (q9_12 ha12 hb hb12) ha12 hb12 hp (nrm_right hb h9 hp) (cmpI_ngt om) ((neg_q hb).trans (decide_eq_true om)) ht
  have e:(([48],[49]):R)=qR 0 (tenI pl):=q01.trans (qR_congr dc (ten_pos pl) om)
  rw[show([48]:List UInt8)=(qR 0 (tenI pl)).1 from congrArg Prod.fst e,show([49]:List UInt8)=(qR 0 (tenI pl)).2 from congrArg Prod.snd e]at h
  exact h
theorem normal_hi (ha12:a.natAbs<10^12)(hb:0<b)(hb12:b<10^12)(hhi:8*b<=a)(h9:a.natAbs<=1000000*b.natAbs)(hp:pl<=12)(ht:Tb w):
    CL 75 #[.agg #[S (qR a b).1,S (qR a b).2],.int .i64 ((pl:Nat):Int)] w (Ret w λv _=>v=CellV pl (tenI pl-1) (tenI pl)):=by
  have h:=Normal_hi (l:=(qR a b).1) (m:=(qR a b).2) rfl (q9_12 ha12 hb hb12) ha12 hb12 hp (nrm_right hb h9 hp) (cmpI_gt0 om) (cmpI_nlt om) ((neg_q hb).trans (decide_eq_false om)) ht
  have hT:=ten_pos pl
  have e:(([49],[49]):R)=qR (tenI pl) (tenI pl):=q11.trans (qR_congr dc hT om)
  have e1:([49]:List UInt8)=(qR (tenI pl) (tenI pl)).1:=congrArg Prod.fst e
  have e2:([49]:List UInt8)=(qR (tenI pl) (tenI pl)).2:=congrArg Prod.snd e
  rw[Int.one_mul,Int.one_mul]at h
  unfold CellV
  rw[<-e1,<-e2]
  exact h
end
theorem ten_le60 {n:Nat}(h:n<=60):tenI n<=10^60:=by
  unfold tenI
  have h1:(10:Nat)^n<=10^60:=Nat.pow_le_pow_right dc h
  have h2:(((10:Nat)^60:Nat):Int)=(10:Int)^60:=by norm_cast
  omega
theorem cellW_ok (k pl:Nat){a b:Nat}(h1:a<=b)(h2:b<=1000000000000000000000000000000000000000000000000000000000000):
    CellW k pl ((a:Int),(b:Int)) ((a/10^k:Nat):Int) ((upn b (10^k):Nat):Int)∧CellW k pl (-(b:Int),-(a:Int)) (-((upn b (10^k):Nat):Int)) (-((a/10^k:Nat):Int)):=by
  have hp:0<10^k:=Nat.pow_pos dc
  have f1:a/10^k<=a:=Nat.div_le_self _ _
  have f2:upn b (10^k)<=b:=upn_le hp
  have hle:a/10^k<=upn b (10^k):=by rw[upn_eq hp];exact Nat.div_le_div_right om
  have l1:(1000000000000000000000000000000000000000000000000000000000000:Nat)<10^70:=by decide
  have l2:(1000000000000000000000000000000000000000000000000000000000000:Nat)<10^90:=by decide
  generalize he:a/10^k=f at *
  generalize hu:upn b (10^k)=c at *
  refine⟨⟨by simp only;omega,by simp only;omega,by simp only;omega,by rw[<-he];exact fl_n,by rw[<-hu];exact cl_n,by omega,by omega,by omega⟩,⟨by simp only;omega,by simp only;omega,by simp only;omega,?_,?_,by omega,by omega,by omega⟩⟩
  · rw[flI_neg (ten_pos _)];simp only[cl_n,hu]
  · rw[clI_neg (ten_pos _)];simp only[fl_n,he]
theorem cellW_shift {k pl:Nat}{a b f c:Nat}(h:CellW k pl (-(b:Int),-(a:Int)) (-(c:Int)) (-(f:Int)))(hp:pl+k<=60):CellW k pl (tenI (pl+k)-(b:Int),tenI (pl+k)-(a:Int)) (tenI pl-(c:Int)) (tenI pl-(f:Int)):=by
  obtain⟨b1,b2,le,hf,hc,_,_,_⟩:=h
  have hS:tenI (pl+k)<=10^60:=ten_le60 hp
  have hS0:=ten_pos (pl+k)
  have hT0:=ten_pos pl
  have hT:tenI pl<=10^60:=ten_le60 om
  simp only at b1 b2 le hf hc
  refine⟨by simp only;omega,by simp only;omega,by simp only;omega,?_,?_,by omega,by omega,by omega⟩
  · simp only
    unfold flI at *
    rw[show tenI (pl+k)-(b:Int)=-(b:Int)+tenI (pl+k)by omega,Int.add_mul,Int.add_mul_ediv_left _ _ om,hf]
    omega
  · simp only
    unfold clI at *
    rw[show tenI (pl+k)-(a:Int)=-(a:Int)+tenI (pl+k)by omega,Int.add_mul,Int.add_mul_ediv_left _ _ om,Int.add_mul_emod_self_left]
    split at hc
    · rename_i h0;rw[if_pos h0];omega
    · rename_i h0;rw[if_neg h0];omega
def nrB (pl:Nat)(N:Int)(d:Nat)(k:Nat):Option (Int×Int):=nrP (10^(pl+k)) (pl+k) N d
def PosR (pl n d f c:Nat):Prop:=0<n∧FindR pl (nrB pl (n:Int) d) (f:Int) (c:Int)∧FindR pl (nrB pl (-(n:Int)) d) (tenI pl-c) (tenI pl-f)
theorem nr_half {S H pl n d:Nat}{h:N2}(hn:0<n)(hH:S=2*H)(hh:hnP S pl n d=some h):nrP S pl (n:Int) d=some (((H+h.1:Nat):Int),((H+h.2:Nat):Int))∧nrP S pl (-(n:Int)) d=some ((S:Int)-((H+h.2:Nat):Int),(S:Int)-((H+h.1:Nat):Int)):=by
  have hof:ofP S 1 2=(H,H):=by
    unfold ofP
    rw[upn_eq dc,Nat.one_mul,hH,Nat.mul_div_cancel_left _ dc]
    congr 1
    omega
  unfold nrP
  constructor
  · rw[show((n:Int)).natAbs=n from rfl,hh,Option.map_some,if_neg om,hof];rfl
  · rw[show(-(n:Int)).natAbs=n by omega,hh,Option.map_some,if_pos om,hof]
    unfold miP
    simp only[]
    rw[show(H:Int)-(h.2:Int)=(S:Int)-((H+h.2:Nat):Int)by omega,show(H:Int)-(h.1:Int)=(S:Int)-((H+h.1:Nat):Int)by omega]
theorem round_half {k pl H n d:Nat}{h:N2}(hn:0<n)(hp:pl+k<=60)(hH:10^(pl+k)=2*H)(hh:hnP (10^(pl+k)) (pl+k) n d=some h)(h1:H+h.1<=H+h.2)(h2:H+h.2<=1000000000000000000000000000000000000000000000000000000000000):
    ∃r s,nrB pl (n:Int) d k=some r∧CellW k pl r (((H+h.1)/10^k:Nat):Int) ((upn (H+h.2) (10^k):Nat):Int)∧nrB pl (-(n:Int)) d k=some s∧CellW k pl s (tenI pl-((upn (H+h.2) (10^k):Nat):Int)) (tenI pl-(((H+h.1)/10^k:Nat):Int)):=by
  obtain⟨e1,e2⟩:=nr_half hn hH hh
  obtain⟨c1,c2⟩:=cellW_ok k pl h1 h2
  refine⟨_,_,e1,c1,e2,?_⟩
  have e:((10^(pl+k):Nat):Int)=tenI (pl+k):=rfl
  rw[e]
  exact cellW_shift c2 hp
theorem p40:(10:Nat)^40=10000000000000000000000000000000000000000:=by decide +kernel
def nmCk2 (S S1 H c1 c2 S' S1' H' c1' c2':Nat)(n d:Nat)(K:Nat->Nat->Bool):Bool:=hnK S S1 c1 c2 (λr1 r2=>fz (Nat.add H r1) λa=>fz (Nat.add H r2) λb=>
  cond (and (Nat.ble a b) (Nat.ble b 1000000000000000000000000000000000000000000000000000000000000)) (fz (Nat.div a 1000000000000000) λf=>fz (Nat.div (Nat.add b (Nat.pred 1000000000000000)) 1000000000000000) λc=>cond (Nat.ble c (Nat.succ f)) (K f c)
    (hnK S' S1' c1' c2' (λr1 r2=>fz (Nat.add H' r1) λa=>fz (Nat.add H' r2) λb=>cellK 10000000000000000000000000000000000000000 a b K) n d)) false) n d
theorem nmCk2_ok {S S1 H S' S1' H' pl n d:Nat}{c c':N2}{K:Nat->Nat->Bool}(hp:pl<=12)(hS:S=10^(pl+15))(h1:S1=S-1)(hH:S=2*H)(hc:rootP S (byP (piN (pl+15),piN (pl+15)+1) 2 1)=some c)(hcb:bdB c=true)(hS':S'=10^(pl+40))(h1':S1'=S'-1)(hH':S'=2*H')(hc':rootP S' (byP (piN (pl+40),piN (pl+40)+1) 2 1)=some c')(hcb':bdB c'=true)(hn:0<n)(hd:0<d)(hk:nmCk2 S S1 H c.1 c.2 S' S1' H' c'.1 c'.2 n d K=true):∃f g,PosR pl n d f g∧K f g=true:=by
  have hS0:0<S:=by rw[hS];exact Nat.pow_pos dc
  have hS0':0<S':=by rw[hS'];exact Nat.pow_pos dc
  obtain⟨h,hh,hq⟩:=hnK_ok hS0 h1 hc hcb hd hk
  clear hk
  have hk:=hq
  clear hq
  rw[fz_eq,fz_eq]at hk
  rcases cond_t hk with⟨h2,hk⟩|⟨_,hk⟩
  · simp only[Bool.and_eq_true,Nat.ble_eq]at h2
    obtain⟨h2,h3⟩:=h2
    simp only[fz_eq]at hk
    subst hS
    obtain⟨r,s,e1,w1,e2,w2⟩:=round_half (k:=15) hn om hH hh h2 h3
    have e3:Nat.div (Nat.add H h.1) 1000000000000000=(H+h.1)/10^15:=rfl
    have e4:Nat.div (Nat.add (Nat.add H h.2) (Nat.pred 1000000000000000)) 1000000000000000=upn (H+h.2) (10^15):=by rw[upn_eq dc];rfl
    rw[e3,e4]at hk
    rcases cond_t hk with⟨h4,hk⟩|⟨h4,hk⟩
    · rw[Nat.ble_eq]at h4
      refine⟨(H+h.1)/10^15,upn (H+h.2) (10^15),⟨hn,⟨by omega,Or.inl ⟨r,e1,w1⟩⟩,⟨by omega,Or.inl ⟨s,e2,w2⟩⟩⟩,hk⟩
    · have h5:(H+h.1)/10^15+1<upn (H+h.2) (10^15):=by
        rcases Nat.lt_or_ge ((H+h.1)/10^15+1) (upn (H+h.2) (10^15))with x|x
        · exact x
        · rw[show Nat.ble (upn (H+h.2) (10^15)) (Nat.succ ((H+h.1)/10^15))=true from Nat.ble_eq_true_of_le x]at h4;cases h4
      obtain⟨h',hh',hk⟩:=hnK_ok hS0' h1' hc' hcb' hd hk
      unfold cellK at hk
      rcases cond_t hk with⟨h6,hk⟩|⟨_,hk⟩
      · simp only[Bool.and_eq_true,Nat.ble_eq]at h6
        obtain⟨h6,h7⟩:=h6
        simp only[fz_eq]at hk
        rcases cond_t hk with⟨h8,hk⟩|⟨_,hk⟩
        · rw[Nat.ble_eq]at h8
          have hH2:10^(pl+40)=2*H':=by rw[<-hS'];exact hH'
          have hh2:hnP (10^(pl+40)) (pl+40) n d=some h':=by rw[<-hS'];exact hh'
          obtain⟨r',s',e1',w1',e2',w2'⟩:=round_half (k:=40) hn om hH2 hh2 h6 h7
          have e5:Nat.div (Nat.add H' h'.1) 10000000000000000000000000000000000000000=(H'+h'.1)/10^40:=by rw[p40];rfl
          have e6:Nat.div (Nat.add (Nat.add H' h'.2) (Nat.pred 10000000000000000000000000000000000000000)) 10000000000000000000000000000000000000000=upn (H'+h'.2) (10^40):=by rw[p40,upn_eq dc];rfl
          rw[e5,e6]at hk h8
          refine⟨(H'+h'.1)/10^40,upn (H'+h'.2) (10^40),⟨hn,⟨by omega,Or.inr ⟨r,r',_,_,e1,w1,by omega,e1',w1'⟩⟩,⟨by omega,Or.inr ⟨s,s',_,_,e2,w2,by omega,e2',w2'⟩⟩⟩,hk⟩
        · cases hk
      · cases hk
  · cases hk
def CkR (pl:Nat)(ck:Nat->Nat->(Nat->Nat->Bool)->Bool):Prop:=∀n d K,0<n->0<d->ck n d K=true->∃f c,PosR pl n d f c∧K f c=true
def stK (ck:Nat->Nat->(Nat->Nat->Bool)->Bool)(T p:Nat)(K:Nat->Nat->Bool)(n d lo hi:Nat):Bool:=
  ck n d λf c=>cond (and (Nat.ble T (Nat.mul 2 f)) (Nat.ble c T)) (fz (Nat.mul f p) λf8=>fz (Nat.mul c p) λc8=>fz (cond (Nat.ble lo f8) f8 lo) λl=>fz (cond (Nat.ble c8 hi) c8 hi) λh=>K l h) false
def CelR (pl p n d lo hi:Nat):Prop:=∃f c,PosR pl n d f c∧10^pl<=2*f∧c<=10^pl∧f*p<=lo∧hi<=c*p
theorem stK_ok {ck:Nat->Nat->(Nat->Nat->Bool)->Bool}{pl T p n d lo hi:Nat}{K:Nat->Nat->Bool}(hc:CkR pl ck)(hT:T=10^pl)(hn:0<n)(hd:0<d)(h:stK ck T p K n d lo hi=true):∃l h,lo<=l∧h<=hi∧CelR pl p n d l h∧K l h=true:=by
  obtain⟨f,c,hP,hk⟩:=hc n d _ hn hd h
  rcases cond_t hk with⟨h1,hk⟩|⟨_,hk⟩
  · simp only[Bool.and_eq_true,Nat.ble_eq]at h1
    obtain⟨h1,h2⟩:=h1
    rw[fz_eq,fz_eq,fz_eq,fz_eq]at hk
    have e1:∀{x y:Nat},x<=cond (Nat.ble x y) y x∧y<=cond (Nat.ble x y) y x:=by
      intro x y
      cases hb:Nat.ble x y
      · have:¬x<=y:=λe=>by rw[Nat.ble_eq_true_of_le e]at hb;cases hb
        exact⟨Nat.le_refl _,by show y<=x;omega⟩
      · exact⟨Nat.le_of_ble_eq_true hb,Nat.le_refl _⟩
    have e2:∀{x y:Nat},cond (Nat.ble x y) x y<=x∧cond (Nat.ble x y) x y<=y:=by
      intro x y
      cases hb:Nat.ble x y
      · have:¬x<=y:=λe=>by rw[Nat.ble_eq_true_of_le e]at hb;cases hb
        exact⟨by show y<=x;omega,Nat.le_refl _⟩
      · exact⟨Nat.le_refl _,Nat.le_of_ble_eq_true hb⟩
    refine⟨_,_,e1.1,e2.2,⟨f,c,hP,by rw[<-hT];exact h1,by rw[<-hT];exact h2,e1.2,e2.1⟩,hk⟩
  · cases hk
theorem CelR.weak {pl p n d lo hi lo' hi':Nat}(h:CelR pl p n d lo hi)(h1:lo<=lo')(h2:hi'<=hi):CelR pl p n d lo' hi':=by
  obtain⟨f,c,a,b,e,g,k⟩:=h
  exact⟨f,c,a,b,e,by omega,by omega⟩
theorem nmc2:rootP 100000000000000000 (byP (piN 17,piN 17+1) 2 1)=some (250662827463100049,250662827463100051):=by decide +kernel
theorem nmd2:rootP 1000000000000000000000000000000000000000000 (byP (piN 42,piN 42+1) 2 1)=some (2506628274631000502415765284811045253006986,2506628274631000502415765284811045253006987):=by decide +kernel
def nmk2:Nat->Nat->(Nat->Nat->Bool)->Bool:=nmCk2 100000000000000000 99999999999999999 50000000000000000 250662827463100049 250662827463100051 1000000000000000000000000000000000000000000 999999999999999999999999999999999999999999 500000000000000000000000000000000000000000 2506628274631000502415765284811045253006986 2506628274631000502415765284811045253006987
theorem nmo2:CkR 2 nmk2:=λn d K h1 h2 hk=>nmCk2_ok dc (by decide +kernel) (by decide +kernel) (by decide +kernel) nmc2 (by decide +kernel) (by decide +kernel) (by decide +kernel) (by decide +kernel) nmd2 (by decide +kernel) h1 h2 hk
theorem nmc3:rootP 1000000000000000000 (byP (piN 18,piN 18+1) 2 1)=some (2506628274631000502,2506628274631000503):=by decide +kernel
theorem nmd3:rootP 10000000000000000000000000000000000000000000 (byP (piN 43,piN 43+1) 2 1)=some (25066282746310005024157652848110452530069867,25066282746310005024157652848110452530069868):=by decide +kernel
def nmk3:Nat->Nat->(Nat->Nat->Bool)->Bool:=nmCk2 1000000000000000000 999999999999999999 500000000000000000 2506628274631000502 2506628274631000503 10000000000000000000000000000000000000000000 9999999999999999999999999999999999999999999 5000000000000000000000000000000000000000000 25066282746310005024157652848110452530069867 25066282746310005024157652848110452530069868
theorem nmo3:CkR 3 nmk3:=λn d K h1 h2 hk=>nmCk2_ok dc (by decide +kernel) (by decide +kernel) (by decide +kernel) nmc3 (by decide +kernel) (by decide +kernel) (by decide +kernel) (by decide +kernel) nmd3 (by decide +kernel) h1 h2 hk
theorem nmc4:rootP 10000000000000000000 (byP (piN 19,piN 19+1) 2 1)=some (25066282746310005023,25066282746310005025):=by decide +kernel
theorem nmd4:rootP 100000000000000000000000000000000000000000000 (byP (piN 44,piN 44+1) 2 1)=some (250662827463100050241576528481104525300698673,250662827463100050241576528481104525300698675):=by decide +kernel
def nmk4:Nat->Nat->(Nat->Nat->Bool)->Bool:=nmCk2 10000000000000000000 9999999999999999999 5000000000000000000 25066282746310005023 25066282746310005025 100000000000000000000000000000000000000000000 99999999999999999999999999999999999999999999 50000000000000000000000000000000000000000000 250662827463100050241576528481104525300698673 250662827463100050241576528481104525300698675
theorem nmo4:CkR 4 nmk4:=λn d K h1 h2 hk=>nmCk2_ok dc (by decide +kernel) (by decide +kernel) (by decide +kernel) nmc4 (by decide +kernel) (by decide +kernel) (by decide +kernel) (by decide +kernel) nmd4 (by decide +kernel) h1 h2 hk
theorem nmc5:rootP 100000000000000000000 (byP (piN 20,piN 20+1) 2 1)=some (250662827463100050241,250662827463100050242):=by decide +kernel
theorem nmd5:rootP 1000000000000000000000000000000000000000000000 (byP (piN 45,piN 45+1) 2 1)=some (2506628274631000502415765284811045253006986740,2506628274631000502415765284811045253006986741):=by decide +kernel
def nmk5:Nat->Nat->(Nat->Nat->Bool)->Bool:=nmCk2 100000000000000000000 99999999999999999999 50000000000000000000 250662827463100050241 250662827463100050242 1000000000000000000000000000000000000000000000 999999999999999999999999999999999999999999999 500000000000000000000000000000000000000000000 2506628274631000502415765284811045253006986740 2506628274631000502415765284811045253006986741
theorem nmo5:CkR 5 nmk5:=λn d K h1 h2 hk=>nmCk2_ok dc (by decide +kernel) (by decide +kernel) (by decide +kernel) nmc5 (by decide +kernel) (by decide +kernel) (by decide +kernel) (by decide +kernel) nmd5 (by decide +kernel) h1 h2 hk
def All8 (n d lo hi:Nat):Prop:=CelR 1 10000000 n d lo hi∧CelR 2 1000000 n d lo hi∧CelR 3 100000 n d lo hi∧CelR 4 10000 n d lo hi∧CelR 5 1000 n d lo hi∧CelR 6 100 n d lo hi∧CelR 7 10 n d lo hi∧CelR 8 1 n d lo hi
theorem All8.at {n d lo hi pl:Nat}(h:All8 n d lo hi)(h1:1<=pl)(h2:pl<=8):CelR pl (10^(8-pl)) n d lo hi:=by
  obtain⟨a1,a2,a3,a4,a5,a6,a7,a8⟩:=h
  rcases(by omega:pl=1∨pl=2∨pl=3∨pl=4∨pl=5∨pl=6∨pl=7∨pl=8)with rfl|rfl|rfl|rfl|rfl|rfl|rfl|rfl
  · exact a1
  · exact a2
  · exact a3
  · exact a4
  · exact a5
  · exact a6
  · exact a7
  · exact a8
def Cel (pl u f c:Nat):Prop:=FindR pl (nrmBd pl (u:Int) 1000000) (f:Int) (c:Int)∧FindR pl (nrmBd pl (-(u:Int)) 1000000) (tenI pl-c) (tenI pl-f)∧10^pl<=2*f∧c<=10^pl
theorem red_negs {N D:Int}(hD:0<D):redN (-N) D=-redN N D∧redD (-N) D=redD N D:=by
  have h:=red_uniq (a:=redN (-N) D) (b:=redD (-N) D) (c:=-redN N D) (d:=redD N D) (rq_pos hD) (rq_pos hD) (rq_gcd hD) (by rw[Int.neg_gcd];exact rq_gcd hD) ?_
  · exact h
  · have h1:=rq_cross (n:=-N) hD
    have h2:=rq_cross (n:=N) hD
    have h3:redN (-N) D*redD N D*D=-redN N D*redD (-N) D*D:=by
      rw[show redN (-N) D*redD N D*D=redN (-N) D*D*redD N D by grind,h1,show -redN N D*redD (-N) D*D=-(redN N D*D)*redD (-N) D by grind,h2]
      grind
    exact Int.eq_of_mul_eq_mul_right om h3
theorem redn_nat {u d:Nat}(hd:0<d):redN (u:Int) (d:Int)=((u/Nat.gcd u d:Nat):Int)∧(redD (u:Int) (d:Int)).toNat=d/Nat.gcd u d:=by
  unfold redN redD
  rw[if_neg om,if_neg om,show Int.gcd (u:Int) (d:Int)=Nat.gcd u d from rfl]
  constructor
  · rw[Int.natCast_ediv]
  · rw[<-Int.natCast_ediv];rfl
theorem posR_cel {pl u d f c:Nat}(hd:0<d)(h:PosR pl (u/Nat.gcd u d) (d/Nat.gcd u d) f c):FindR pl (nrmBd pl (u:Int) (d:Int)) (f:Int) (c:Int)∧FindR pl (nrmBd pl (-(u:Int)) (d:Int)) (tenI pl-c) (tenI pl-f):=by
  obtain⟨_,h1,h2⟩:=h
  obtain⟨e1,e2⟩:=redn_nat (u:=u) hd
  obtain⟨e3,e4⟩:=red_negs (N:=(u:Int)) (D:=(d:Int)) om
  have x1:nrmBd pl (u:Int) (d:Int)=nrB pl ((u/Nat.gcd u d:Nat):Int) (d/Nat.gcd u d):=funext λk=>by unfold nrmBd nrB;rw[e1,e2]
  have x2:nrmBd pl (-(u:Int)) (d:Int)=nrB pl (-((u/Nat.gcd u d:Nat):Int)) (d/Nat.gcd u d):=funext λk=>by unfold nrmBd nrB;rw[e3,e4,e1,e2]
  rw[x1,x2];exact⟨h1,h2⟩
def anyN (ck:Nat->Bool)(n:Nat):Bool:=Nat.rec (motive:=λ_=>Bool) false (λm ih=>cond (ck (Nat.succ m)) true ih) n
def prodB (K:Nat):Bool:=anyN (λW=>and (Nat.beq (Nat.mod K W) 0) (Nat.ble (Nat.div K W) 50)) 40
def rowK (pk:Nat->Nat->Bool)(S lo n:Nat):Bool:=allN (λi=>fz (Nat.add lo i) λK=>cond (Nat.ble (Nat.mul 160 S) K) true (cond (Nat.beq (Nat.gcd K S) 1) (cond (prodB K) (pk S K) true) true)) n
theorem rowK_ok {pk:Nat->Nat->Bool}{S lo n K:Nat}(h:rowK pk S lo n=true)(h1:lo<K)(h2:K<=lo+n)(h3:K<160*S)(h4:Nat.gcd K S=1)(h5:prodB K=true):pk S K=true:=by
  have h6:=allN_ok h (K-lo) om om
  rw[fz_eq,show Nat.add lo (K-lo)=K by show lo+(K-lo)=K;omega]at h6
  rcases cond_t h6 with⟨h7,_⟩|⟨_,h6⟩
  · have:=Nat.le_of_ble_eq_true h7
    exact absurd (show 160*S<=K from this) om
  · rw[h4]at h6
    rcases cond_t h6 with⟨_,h6⟩|⟨h7,_⟩
    · rw[h5]at h6;exact h6
    · cases h7
def Rng (pk:Nat->Nat->Bool)(S m:Nat):Prop:=∀K,0<K->K<=m->K<160*S->Nat.gcd K S=1->prodB K=true->pk S K=true
theorem Rng.zero {pk:Nat->Nat->Bool}{S:Nat}:Rng pk S 0:=λK h1 h2=>by omega
theorem Rng.next {pk:Nat->Nat->Bool}{S m n:Nat}(h:Rng pk S m)(h2:rowK pk S m n=true):Rng pk S (m+n):=λK a b c d e=>by
  by_cases h3:K<=m
  · exact h K a h3 c d e
  · exact rowK_ok h2 om b c d e
end Go.Proofs.YtmehbpjpbbhohaaGreatDoor
namespace Go.Proofs.YtmehbpjpbbhohaaGreatDoor
open Go Go.Eng Go.RowKit
attribute [local irreducible] wpListIn Code.wpIn Oper.wpIn Exit.then Exit.inBlock Exit.noGoto
set_option maxHeartbeats 40000000
end Go.Proofs.YtmehbpjpbbhohaaGreatDoor
namespace Go.Eng
open Go Go.RowKit
def nthO:List (Option (Nat×Value))->Nat->Option (Option (Nat×Value))
  |[],_=>none
  |x::_,0=>some x
  |_::l,i+1=>nthO l i
def VL (L:List (Option (Nat×Value)))(ls:Nat->Bool)(e:Nat->Value):Prop:=∀i d v,nthO L i=some (some (d,v))->ls i=true->e d=v
def eqO:Option Nat->Nat->Bool
  |none,_=>false
  |some a,b=>Nat.beq a b
def ndO:List Oper->Bool
  |[]=>true
  |o::l=>(match o.dst with|none=>true|some d=>l.all λp=>!eqO p.dst d)&&ndO l
def mtB:List Oper->List (Option (Nat×Value))->Bool
  |_,[]=>true
  |[],_::_=>false
  |o::os,x::xs=>(match x with|none=>true|some y=>eqO o.dst y.1)&&mtB os xs
def inD (D:List Nat)(l:List Oper):Bool:=l.all λo=>match o.dst with|none=>true|some d=>inB D d
theorem eqO_iff {o:Option Nat}{d:Nat}:eqO o d=true↔o=some d:=by
  cases o with
  |none=>simp[eqO]
  |some a=>simp only[eqO,Option.some.injEq];exact⟨Nat.eq_of_beq_eq_true,λh=>by subst h;simp⟩
theorem ndO_get:∀{l:List Oper} {i j d:Nat} {o p:Oper},ndO l=true->l[i]?=some o->l[j]?=some p->o.dst=some d->p.dst=some d->i=j
  |[],i,_,_,_,_,_,h,_,_,_=>by simp at h
  |q::l,0,0,_,_,_,_,_,_,_,_=>rfl
  | q::l,0,j+1,d,o,p,h,ho,hp,hd,he=>by
    simp at ho;subst ho
    simp only[ndO,hd,Bool.and_eq_true]at h
    have:=List.all_eq_true.1 h.1 p (List.mem_of_getElem? (by simpa using hp))
    rw[eqO_iff.2 he]at this;cases this
  | q::l,i+1,0,d,o,p,h,ho,hp,hd,he=>by
    simp at hp;subst hp
    simp only[ndO,he,Bool.and_eq_true]at h
    have:=List.all_eq_true.1 h.1 o (List.mem_of_getElem? (by simpa using ho))
    rw[eqO_iff.2 hd]at this;cases this
  | q::l,i+1,j+1,d,o,p,h,ho,hp,hd,he=>by
    simp only[ndO,Bool.and_eq_true]at h
    have e:=ndO_get h.2 (by simpa using ho) (by simpa using hp) hd he
    omega
theorem mtB_get:∀{l:List Oper} {L:List (Option (Nat×Value))} {i d:Nat} {v:Value},mtB l L=true->nthO L i=some (some (d,v))->∃o,l[i]?=some o∧o.dst=some d
  |_,[],i,_,_,_,h=>by cases i <;>cases h
  |[],_::_,_,_,_,h,_=>by cases h
  | o::os,x::xs,0,d,v,h,hx=>by
    cases hx
    simp only[mtB,Bool.and_eq_true]at h
    exact⟨o,rfl,eqO_iff.1 h.1⟩
  | o::os,x::xs,i+1,d,v,h,hx=>by
    simp only[mtB,Bool.and_eq_true]at h
    obtain⟨p,h1,h2⟩:=mtB_get h.2 (show nthO xs i=_ from hx)
    exact⟨p,by simpa using h1,h2⟩
theorem Blk.cst {w:World}{b:Nat}{t:TypeId}{ds cs:Array Value}(h:Blk w b t ds)(e:ds=cs):Blk w b t cs:=e▸h
section draws
variable {P:Program}{r:Option Nat}{n N:Nat}{e0:Nat->Value}{ds:List Deferred}{w0:World}{Q:Exit->Act->World->Prop}{M:Nat}
def EndV (N:Nat)(ds:List Deferred)(X:(Nat->Bool)->(Nat->Value)->World->Prop)(L:List (Option (Nat×Value)))(ls:Nat->Bool)(e:Nat->Value)(i:Nat)(dst:Option Nat):Exit->Act->World->Prop:=
  λx a' w'=>x=.normal∧∃v,a'=(act N e ds).put dst v∧(∀d u,nthO L i=some (some (d,u))->v=u)∧X (setB ls i) (updO e dst v) w'
def DvS (r:Option Nat)(n:Nat)(P:Program)(N:Nat)(ds:List Deferred)(l:List Oper)(D:List Nat)(L:List (Option (Nat×Value)))(X:(Nat->Bool)->(Nat->Value)->World->Prop)(e0:Nat->Value):Nat->List Oper->Prop
  |_,[]=>True
  |i,o::os=>(∀(e:Nat->Value) (w:World) (ls:Nat->Bool),(∀t,inB D t=false->e t=e0 t)->(∀k d v,nthO L k=some (some (d,v))->predAt l i k=true->e d=v)->X ls e w->(∀j k,predAt l j k=true->ls j=true->ls k=true)->ls i=false->(∀k,predAt l i k=true->ls k=true)->
      wpListIn (Fw r) n P l.toArray (EndV N ds X L ls e i o.dst) [o] (act N e ds) w)∧DvS r n P N ds l D L X e0 (i+1) os
theorem dvS_get {l:List Oper}{D:List Nat}{L:List (Option (Nat×Value))}{X:(Nat->Bool)->(Nat->Value)->World->Prop}(hnd:ndO (l.take M)=true)(hmt:mtB (l.take M) L=true)(hD:inD D (l.take M)=true):
    ∀(os:List Oper) (i0:Nat),(∀k,os[k]?=(l.take M)[i0+k]?)->DvS r n P N ds l D L X e0 i0 os->
    StepsS r n P N ds l (λls e w=>(∀t,inB D t=false->e t=e0 t)∧VL L ls e∧X ls e w) i0 os
  |[],_,_,_=>trivial
  | o ::os,i0,hk,h=>by
    refine⟨λe w ls hJ hcl hni hpr=>?_,dvS_get hnd hmt hD os (i0+1) (λk=>by rw[show i0+1+k=i0+(k+1)by omega,<-hk (k+1)];rfl) h.2⟩
    obtain⟨hs,hv,hX⟩:=hJ
    have ho:(l.take M)[i0]?=some o:=by have:=hk 0;simpa using this.symm
    have hstep:=h.1 e w ls hs (λk d v hl hp=>hv k d v hl (hpr k hp)) hX hcl hni hpr
    refine list_mono1 (K1:=λa' w'=>∃v,a'=(act N e ds).put o.dst v∧(∀d u,nthO L i0=some (some (d,u))->v=u)∧X (setB ls i0) (updO e o.dst v) w') hstep (λa' w' hE=>?_)
    obtain⟨v,ha,hvv,hX'⟩:=hE
    refine⟨v,ha,?_,?_,hX'⟩
    · cases hd:o.dst with
      |none=>exact hs
      | some d=>
        refine same_upd ?_ hs
        have:=List.all_eq_true.1 hD o (List.mem_of_getElem? ho)
        rw[hd]at this;exact this
    · intro j d' v' hj hl
      by_cases hji:j=i0
      · subst hji
        obtain⟨p,hp1,hp2⟩:=mtB_get hmt hj
        rw[ho]at hp1
        cases hp1
        rw[hp2]
        show upd e d' v d'=v'
        rw[upd_eq];exact hvv d' v' hj
      · have hl':ls j=true:=by
          have hb:Nat.beq j i0=false:=by
            cases hb:Nat.beq j i0 with
            |false=>rfl
            |true=>exact absurd (Nat.eq_of_beq_eq_true hb) hji
          unfold setB at hl;rw[hb]at hl;exact hl
        have he:=hv j d' v' hj hl'
        cases hd:o.dst with
        |none=>exact he
        | some d=>
          show upd e d v d'=v'
          obtain⟨p,hp1,hp2⟩:=mtB_get hmt hj
          rw[upd_ne _ _ (λhh:d'=d=>hji (ndO_get hnd hp1 ho (by rw[hp2,hh]) hd))]
          exact he
theorem c_dv {id:Nat}{l:List Oper}(hm:P.follows .mixedOrders=true)(M:Nat)(D:List Nat)(L:List (Option (Nat×Value)))(X:(Nat->Bool)->(Nat->Value)->World->Prop)(h0:X (λ_=>false) e0 w0.drew)(hwf:wfB l=true)(hshape:shapeB l M=true)(hchk:(ndO (l.take M)&&(mtB (l.take M) L&&inD D (l.take M)))=true)(hstep:DvS r n P N ds l D L X e0 0 (l.take M))(hfin:∀(e:Nat->Value) (w:World) (ls:Nat->Bool),(∀j,Nat.blt j M=true->ls j=true)->(∀t,inB D t=false->e t=e0 t)->(∀k d v,nthO L k=some (some (d,v))->Nat.blt k M=true->e d=v)->X ls e w->wpListIn (Fw r) n P l.toArray Q (l.drop M) (act N e ds) w):
    (Code.region id l.toArray true).wpIn (Fw r) n P Q (act N e0 ds) w0:=by
  simp only[Bool.and_eq_true]at hchk
  refine c_st2 hm M (λe0 ls e w=>(∀t,inB D t=false->e t=e0 t)∧VL L ls e∧X ls e w) ⟨λ_ _=>rfl,(λ_ _ _ _ h=>by cases h),h0⟩ hwf hshape (dvS_get hchk.1 hchk.2.1 hchk.2.2 _ 0 (λk=>by rw[Nat.zero_add]) hstep) ?_
  intro e w ls hall hJ
  exact hfin e w ls hall hJ.1 (λk d v hl hk=>hJ.2.1 k d v hl (hall k hk)) hJ.2.2
def XE (w0:World)(_:Nat->Bool)(_:Nat->Value)(w:World):Prop:=Ext w0 w
theorem dvE {L:List (Option (Nat×Value))}{ls:Nat->Bool}{e:Nat->Value}{i d:Nat}{v:Value}{w w':World}(hl:nthO L i=some (some (d,v)))(hX:XE w0 ls e w)(k:Ext w w'):EndV N ds (XE w0) L ls e i (some d) .normal (act N (upd e d v) ds) w':=
  ⟨rfl,v,(act_put ..).symm,(λ_ _ h=>by rw[hl]at h;cases h;rfl),Ext.trans hX k⟩
def XA (w0:World)(a s d ty:Nat)(z v:Array Value)(ls:Nat->Bool)(e:Nat->Value)(w:World):Prop:=
  Ext w0 w∧(ls a=true->∃b,e d=.pointer (some ⟨b,0,none⟩)∧w0.heap.size<=b∧Blk w b ty (match ls s with|true=>v|false=>z))
theorem XA.start {a s d ty:Nat}{z v:Array Value}:XA w0 a s d ty z v (λ_=>false) e0 w0.drew:=⟨Ext.drew w0,λh=>by cases h⟩
theorem setB_ne {ls:Nat->Bool}{i j:Nat}(h:Nat.beq j i=false):setB ls i j=ls j:=by unfold setB;rw[h]
theorem setB_eq {ls:Nat->Bool}{i:Nat}:setB ls i i=true:=by unfold setB;simp
theorem upd_nb {e:Nat->Value}{d t:Nat}{v:Value}(h:Nat.beq t d=false):upd e d v t=e t:=upd_ne _ _ (λhh=>by subst hh;simp at h)
theorem dvA {L:List (Option (Nat×Value))}{ls:Nat->Bool}{e:Nat->Value}{i d a s t ty:Nat}{z u:Array Value}{v:Value}{w w':World}(hl:nthO L i=some (some (d,v)))(hX:XA w0 a s t ty z u ls e w)(k:Ext w w')(h1:Nat.beq a i=false:=by rfl)(h2:Nat.beq s i=false:=by rfl)(h3:Nat.beq t d=false:=by rfl):
    EndV N ds (XA w0 a s t ty z u) L ls e i (some d) .normal (act N (upd e d v) ds) w':=by
  refine⟨rfl,v,(act_put ..).symm,(λ_ _ h=>by rw[hl]at h;cases h;rfl),Ext.trans hX.1 k,λh=>?_⟩
  rw[setB_ne h1]at h
  obtain⟨b,e1,e2,e3⟩:=hX.2 h
  refine⟨b,?_,e2,?_⟩
  · show upd e d v t=_
    rw[upd_nb h3];exact e1
  · rw[setB_ne h2];exact Blk.ext k e3
theorem dvAa {L:List (Option (Nat×Value))}{ls:Nat->Bool}{e:Nat->Value}{a s t ty:Nat}{z u:Array Value}{w w':World}(hl:nthO L a=some none)(hX:XA w0 a s t ty z u ls e w)(hs:ls s=false)(k:Ext w w')(hb:Blk w' w.heap.size ty z)(h2:Nat.beq s a=false:=by rfl):
    EndV N ds (XA w0 a s t ty z u) L ls e a (some t) .normal (act N (upd e t (.pointer (some ⟨w.heap.size,0,none⟩))) ds) w':=by
  refine⟨rfl,_,(act_put ..).symm,(λ_ _ h=>by rw[hl]at h;cases h),Ext.trans hX.1 k,λ_=>⟨w.heap.size,?_,Below.size hX.1,?_⟩⟩
  · show upd e t _ t=_
    rw[upd_eq]
  · rw[setB_ne h2,hs];exact hb
theorem dvAs {L:List (Option (Nat×Value))}{ls:Nat->Bool}{e:Nat->Value}{a s t ty b:Nat}{z u:Array Value}{w w':World}(hl:nthO L s=none∨nthO L s=some none)(hX:XA w0 a s t ty z u ls e w)(he:e t=.pointer (some ⟨b,0,none⟩))(hlo:w0.heap.size<=b)(k:Put w w' b)(hb:Blk w' b ty u)(h2:Nat.beq a s=false:=by rfl):
    EndV N ds (XA w0 a s t ty z u) L ls e s none .normal (act N e ds) w':=by
  refine⟨rfl,undef,rfl,(λ_ _ h=>absurd h (by rcases hl with hl|hl <;>rw[hl] <;>simp)),Put.low k hX.1 hlo,λ_=>⟨b,he,hlo,?_⟩⟩
  rw[setB_eq];exact hb
theorem dvAn {L:List (Option (Nat×Value))}{ls:Nat->Bool}{e:Nat->Value}{a s t ty:Nat}{z:Array Value}{w w':World}(hl:nthO L a=some none)(hX:XA w0 a s t ty z z ls e w)(k:Ext w w')(hb:Blk w' w.heap.size ty z):
    EndV N ds (XA w0 a s t ty z z) L ls e a (some t) .normal (act N (upd e t (.pointer (some ⟨w.heap.size,0,none⟩))) ds) w':=by
  refine⟨rfl,_,(act_put ..).symm,(λ_ _ h=>by rw[hl]at h;cases h),Ext.trans hX.1 k,λ_=>⟨w.heap.size,?_,Below.size hX.1,?_⟩⟩
  · show upd e t _ t=_
    rw[upd_eq]
  · cases setB ls a s <;>exact hb
theorem XA.opn {a s d ty:Nat}{z v:Array Value}{ls:Nat->Bool}{e:Nat->Value}{w:World}(h:XA w0 a s d ty z v ls e w)(ha:ls a=true)(hs:ls s=false):∃b,e d=.pointer (some ⟨b,0,none⟩)∧w0.heap.size<=b∧Blk w b ty z:=by
  obtain⟨b,h1,h2,h3⟩:=h.2 ha
  rw[hs]at h3
  exact⟨b,h1,h2,h3⟩
theorem XA.fin {a s d ty:Nat}{z v:Array Value}{ls:Nat->Bool}{e:Nat->Value}{w:World}(h:XA w0 a s d ty z v ls e w)(ha:ls a=true)(hs:ls s=true∨z=v):∃b,e d=.pointer (some ⟨b,0,none⟩)∧w0.heap.size<=b∧Blk w b ty v:=by
  obtain⟨b,h1,h2,h3⟩:=h.2 ha
  rcases hs with hs|hs
  · rw[hs]at h3;exact⟨b,h1,h2,h3⟩
  · subst hs;refine⟨b,h1,h2,?_⟩;cases hh:ls s <;>rw[hh]at h3 <;>exact h3
def XW (w0:World)(b s ty:Nat)(z v:Array Value)(ls:Nat->Bool)(_:Nat->Value)(w:World):Prop:=
  w0.grownBy w (some b)∧Blk w b ty (match ls s with|true=>v|false=>z)
theorem XW.start {b s ty:Nat}{z v:Array Value}(h:Blk w0 b ty z):XW w0 b s ty z v (λ_=>false) e0 w0.drew:=⟨gb_ext (World.grownBy.refl w0 _) (Ext.drew w0),Blk.ext (Ext.drew w0) h⟩
theorem XW.opn {b s ty:Nat}{z v:Array Value}{ls:Nat->Bool}{e:Nat->Value}{w:World}(h:XW w0 b s ty z v ls e w)(hs:ls s=false):Blk w b ty z:=by
  have h3:=h.2
  rw[hs]at h3;exact h3
theorem XW.fin {b s ty:Nat}{z v:Array Value}{ls:Nat->Bool}{e:Nat->Value}{w:World}(h:XW w0 b s ty z v ls e w)(hs:ls s=true):Blk w b ty v:=by
  have h3:=h.2
  rw[hs]at h3;exact h3
def XG (Rel:World->Prop)(_:Nat->Bool)(_:Nat->Value)(w:World):Prop:=Rel w
theorem dvG {Rel:World->Prop}{L:List (Option (Nat×Value))}{ls:Nat->Bool}{e:Nat->Value}{i d:Nat}{v:Value}{w':World}(hl:nthO L i=some (some (d,v)))(h:Rel w'):EndV N ds (XG Rel) L ls e i (some d) .normal (act N (upd e d v) ds) w':=
  ⟨rfl,v,(act_put ..).symm,(λ_ _ h=>by rw[hl]at h;cases h;rfl),h⟩
def XH (Rel:World->Prop)(n0 a d ty:Nat)(z:Array Value)(ls:Nat->Bool)(e:Nat->Value)(w:World):Prop:=
  Rel w∧n0<=w.heap.size∧(ls a=true->∃b,e d=.pointer (some ⟨b,0,none⟩)∧n0<=b∧Blk w b ty z)
theorem XH.start {Rel:World->Prop}{a d ty:Nat}{z:Array Value}(h:Rel w0.drew):XH Rel w0.heap.size a d ty z (λ_=>false) e0 w0.drew:=⟨h,Below.size (Ext.drew w0),λh=>by cases h⟩
theorem dvH {Rel:World->Prop}{L:List (Option (Nat×Value))}{ls:Nat->Bool}{e:Nat->Value}{n0 i d a t ty:Nat}{z:Array Value}{v:Value}{w w':World}{row:Option Nat}(hl:nthO L i=some (some (d,v)))(hX:XH Rel n0 a t ty z ls e w)(h:Rel w')(k:w.grownBy w' row)(hr:∀g,row=some g->g<n0)(h1:Nat.beq a i=false:=by rfl)(h3:Nat.beq t d=false:=by rfl):
    EndV N ds (XH Rel n0 a t ty z) L ls e i (some d) .normal (act N (upd e d v) ds) w':=by
  refine⟨rfl,v,(act_put ..).symm,(λ_ _ h=>by rw[hl]at h;cases h;rfl),h,Nat.le_trans hX.2.1 k.size,λha=>?_⟩
  rw[setB_ne h1]at ha
  obtain⟨b,e1,e2,e3⟩:=hX.2.2 ha
  refine⟨b,?_,e2,Blk.gr k (λhe=>by have:=hr b he.symm;omega) e3⟩
  show upd e d v t=_
  rw[upd_nb h3];exact e1
theorem dvHx {Rel:World->Prop}{L:List (Option (Nat×Value))}{ls:Nat->Bool}{e:Nat->Value}{n0 i d a t ty:Nat}{z:Array Value}{v:Value}{w w':World}(hl:nthO L i=some (some (d,v)))(hX:XH Rel n0 a t ty z ls e w)(h:Rel w')(k:Ext w w')(h1:Nat.beq a i=false:=by rfl)(h3:Nat.beq t d=false:=by rfl):
    EndV N ds (XH Rel n0 a t ty z) L ls e i (some d) .normal (act N (upd e d v) ds) w':=dvH hl hX h (gb_ext (World.grownBy.refl w none) k) (λg h=>by cases h) h1 h3
theorem dvHa {Rel:World->Prop}{L:List (Option (Nat×Value))}{ls:Nat->Bool}{e:Nat->Value}{n0 a t ty:Nat}{z:Array Value}{w w':World}(hl:nthO L a=some none)(hX:XH Rel n0 a t ty z ls e w)(h:Rel w')(k:Ext w w')(hb:Blk w' w.heap.size ty z):
    EndV N ds (XH Rel n0 a t ty z) L ls e a (some t) .normal (act N (upd e t (.pointer (some ⟨w.heap.size,0,none⟩))) ds) w':=by
  refine⟨rfl,_,(act_put ..).symm,(λ_ _ h=>by rw[hl]at h;cases h),h,Nat.le_trans hX.2.1 k.size,λ_=>⟨w.heap.size,?_,hX.2.1,hb⟩⟩
  show upd e t _ t=_
  rw[upd_eq]
end draws
end Go.Eng
namespace Go.Proofs.YtmehbpjpbbhohaaGreatDoor
set_option maxRecDepth 100000
open Go Go.Eng Go.RowKit
attribute [local irreducible] wpListIn Code.wpIn Oper.wpIn Exit.then Exit.inBlock Exit.noGoto
set_option maxHeartbeats 40000000
def mnR (q:Bool)(x y:R):R:=cond q y x
theorem mn_t {q:Bool}{x y:R}(h:q=true):mnR q x y=y:=by subst h;rfl
theorem mn_f {q:Bool}{x y:R}(h:q=false):mnR q x y=x:=by subst h;rfl
def mnA (q:Bool)(x y:R)(i:Nat):R:=if i=1 then x else mnR q x y
theorem mnA_2 {q:Bool}{x y:R}:mnA q x y 2=mnR q x y:=rfl
section
variable {a b c d:Int}{w:World}
theorem qCmpX (h1:Q9 a b)(h2:Q9 c d)(ht:Tb w):CL 21 #[QV a b,QV c d] w (Ret w λv _=>v=.int .i64 (cmpI (a*d) (c*b))):=qCmpL rfl rfl h1 h2 ht
theorem qAddX (h1:Q9 a b)(h2:Q9 c d)(ht:Tb w):CL 19 #[QV a b,QV c d] w (Ret w λv _=>v=Qv (a*d+c*b) (b*d)):=qAddL rfl rfl h1 h2 ht
theorem qSubX (h1:Q9 a b)(h2:Q9 c d)(ht:Tb w):CL 17 #[QV a b,QV c d] w (Ret w λv _=>v=Qv (a*d-c*b) (b*d)):=qSubL rfl rfl h1 h2 ht
theorem qDivX (h1:Q9 a b)(h2:Q9 c d)(hc:0<c)(ht:Tb w):CL 25 #[QV a b,QV c d] w (Ret w λv _=>v=Qv (a*d) (b*c)):=qDivL rfl rfl h1 h2 hc ht
end
theorem rmust_ok {l m:List UInt8}{w:World}:
    CL 78 #[.agg #[S l,S m],.int .i64 0] w (Ret w λv w'=>v=.agg #[S l,S m]):=by
 refine f_in Tryz.func78 rfl ?_;refine go ?_;refine bx (λaom aoo r8=>?_);have sc:=aoo.2;refine al inf36 (λ_ aon aop=>?_);have⟨r8,sc⟩:=be1 aon.2 r8 sc;refine go ?_;refine SA aop (λ_ aol aoq=>?_);have⟨r8,sc,_⟩:=pl1 aol r8 sc;refine go ?_;refine f_out (v:=.agg #[S l,S m]) (res1  rfl ?_) sc rfl;refine res_cellA (t:=4) (cs:=[S l,S m]) (b:=aom.heap.size) (o:=0) U36 rfl sz36 ?_ ?_;exact rfl;exact Blk.cells aoq (i:=0) rfl
theorem imust_ok {x:R×R}{w:World}:
    CL 57 #[.agg #[S (x.1.1),S (x.1.2),S (x.2.1),S (x.2.2)],.int .i64 0] w (Ret w λv w'=>v=.agg #[S (x.1.1),S (x.1.2),S (x.2.1),S (x.2.2)]):=by
 refine f_in Tryz.func57 rfl ?_;refine go ?_;refine bx (λaom aoo r8=>?_);have sc:=aoo.2;refine al inf1032 (λ_ aon aop=>?_);have⟨r8,sc⟩:=be1 aon.2 r8 sc;refine go ?_;refine l_op (k_loadA (cs:=[S (x.1.1),S (x.1.2),S (x.2.1),S (x.2.2)]) (b:=w.heap.size) (o:=0) U1032 rfl sz1032 rfl (Blk.cells r8 (i:=0) rfl) ?_);refine SA aop (λ_ aol aoq=>?_);have⟨r8,sc,_⟩:=pl1 aol r8 sc;refine go ?_;refine f_out (v:=.agg #[S (x.1.1),S (x.1.2),S (x.2.1),S (x.2.2)]) (res1  rfl ?_) sc rfl;refine res_cellA (t:=4) (cs:=[S (x.1.1),S (x.1.2),S (x.2.1),S (x.2.2)]) (b:=aom.heap.size) (o:=0) U1032 rfl sz1032 ?_ ?_;exact rfl;exact Blk.cells aoq (i:=0) rfl
theorem whole_ok {n:Int}{w:World}(hn:In64 n)(ht:Tb w):
    CL 60 #[.int .i64 n] w (Ret w λv w'=>v=QV n 1):=by
 refine f_in Tryz.func60 rfl ?_;refine go ?_;refine al inf36 (λ_ aoo sc=>?_);have r8:=aoo.2;refine go ?_;refine clb en1025 (hc:=rOfZ_ok hn (by unfold In64;decide) dc (ht.ext r8)) (hk:=?_);rintro _ _ aol rfl;have⟨sc,r8⟩:=be1 aol.2 sc r8;refine go ?_;refine cl en2152 rmust_ok ?_;rintro _ _ aom rfl;have⟨sc,r8⟩:=be1 aom.2 sc r8;refine SA sc (λ_ aon aop=>?_);have r8:=plw aon r8;have aow:=psz aon;refine go ?_;refine f_out (v:=QV n 1) (res1  rfl ?_) r8 rfl;refine res_cellA (t:=2) (cs:=[S (qR n 1).1,S (qR n 1).2]) (b:=w.heap.size) (o:=0) U36 rfl sz36 ?_ ?_;exact rfl;exact Blk.cells aop (i:=0) rfl
theorem isLess_ok {a b c d:Int}{w:World}(h1:Q9 a b)(h2:Q9 c d)(ht:Tb w):
    CL 45 #[QV a b,QV c d] w (Ret w λv w'=>v=.bool (decide (cmpI (a*d) (c*b)<0))):=by
 refine f_in Tryz.func45 rfl ?_;refine go ?_;refine bx (λ_ aop sc=>?_);have r8:=aop.2;refine bx (λ_ aon _=>?_);have⟨sc,r8⟩:=be1 aon.2 sc r8;refine go ?_;refine cl en49 (qCmpX h1 h2 (ht.ext r8)) ?_;rintro _ _ aom rfl;have r8:=xt r8 aom.2;refine go ?_;exact f_ret1 (t:=4) (v:=.bool (decide ((cmpI (a*d) (c*b))<0))) rfl r8 rfl rfl
theorem minFunc_ok {A:Option Addr}{cp lo:Nat}{x y:R}{k:Int}{q:Bool}{w:World}(hr:Rw w lo A (cellsR [x,y]))(hq:decide (k<0)=q)(hc:∀W,Ext w W->CL 21 #[.agg #[S y.1,S y.2],.agg #[S x.1,S x.2]] W (Ret W λv _=>v=.int .i64 k)):
    CL 101 #[.slice A 2 cp,.func (.func 21) #[] #[]] w (Ret w λv w'=>v=.agg #[S (mnR q x y).1,S (mnR q x y).2]):=by
 obtain⟨bk0,o0,hA0,hcs0⟩:=rw_pair hr (i:=0) (by simp);obtain⟨bk1,o1,hA1,hcs1⟩:=rw_pair hr (i:=1) (by simp);refine f_in Tryz.func101 rfl ?_;refine go ?_;refine al inf36 (λaom ao3 sc=>?_);have aon:=ao3.2;refine go ?_;refine l_op (k_indexAddr (i:=0) (oo:=o0+0*2) U23 sz36 rfl hA0 rfl dc rfl ?_);refine l_op (k_loadA (cs:=[S (x.1),S (x.2)]) (b:=bk0) (o:=o0+0*2) U36 rfl sz36 rfl (λj u hj=>Ext.cell aon (hcs0 j u hj)) ?_);refine al inf36 (λ_ aow ao4=>?_);have⟨sc,aon⟩:=be1 aow.2 sc aon;refine SA ao4 (λao5 aoq r8=>?_);have⟨sc,aon,_⟩:=pl1 aoq sc aon;refine go ?_;refine c_lp [(6,6),(14,31)] (λkk e W=>∃i:Nat,(2-i=kk)∧(e 6=.int .i64 i)∧(1<=i∧i<=2)∧(ao5.heap.size<=W.heap.size)∧(Ext w W)∧(Blk W (w.heap.size) 25 #[S ([]),S ([])])∧(Blk W (aom.heap.size) 25 #[S ((mnA q x y i).1),S ((mnA q x y i).2)])) (2-1) ⟨1,rfl,rfl,dc,(Nat.le_refl _),aon,sc,r8⟩ ?_;rintro _ _ aox ⟨i,rfl,aoo,hi,apc,aol,sc,r8⟩;have apd:=bz aol;by_cases h0:i<2;obtain rfl:i=1:=by omega
 have r8:Blk aox (aom.heap.size) 25 #[S (x.1),S (x.2)]:=r8;refine go ?_;refine c_an 6 ?_;refine sf ?_;refine sf_ap (λ_ _ _ _=>by refine l_op (k_indexAddr (i:=1) (oo:=o1+1*2) U23 sz36 rfl hA1 rfl dc rfl ?_);refine go ?_;exact finp) ?_;refine sf_ap (λ_ _ aor _=>by refine l_op (k_loadA (cs:=[S (y.1),S (y.2)]) (b:=bk1) (o:=o1+1*2) U36 rfl sz36 rfl (λj u hj=>Ext.cell (xt aol aor) (hcs1 j u hj)) ?_);refine go ?_;exact finp) ?_;refine sf ?_;intro _ _ aos _;have⟨sc,r8,aol⟩:=be2 aos.2 sc r8 aol;refine l_op (clV (vs:=[.agg #[S (y.1),S (y.2)],.agg #[S (x.1),S (x.2)]]) (lb:=[]) en49 rfl rfl (hc _ aol) ?_);rintro _ _ aot rfl;have⟨sc,r8,aol⟩:=be2 aot.2 sc r8 aol;refine go ?_;by_cases aop:k<0;refine go ?_;refine l_op (k_indexAddr (i:=1) (oo:=o1+1*2) U23 sz36 rfl hA1 rfl dc rfl ?_);refine l_op (k_loadA (cs:=[S (y.1),S (y.2)]) (b:=bk1) (o:=o1+1*2) U36 rfl sz36 rfl (λj u hj=>Ext.cell aol (hcs1 j u hj)) ?_);refine SA r8 (λ_ aou ao6=>?_);have⟨sc,aol,_⟩:=pl1 aou sc aol;refine go ?_;refine l_op (k_add (a:=1) (b:=1) (c:=2) rfl rfl (by unfold In64;omega) rfl ?_);refine go ?_;exact lend (hk:=by decide) ⟨2,rfl,rfl,dc,om,aol,sc,(by rw[mnA_2,mn_t (hq.symm.trans (decide_eq_true aop))];exact ao6)⟩;refine go ?_;refine l_op (k_add (a:=1) (b:=1) (c:=2) rfl rfl (by unfold In64;omega) rfl ?_);refine go ?_
 exact lend (hk:=by decide) ⟨2,rfl,rfl,dc,om,aol,sc,(by rw[mnA_2,mn_f (hq.symm.trans (decide_eq_false aop))];exact r8)⟩;obtain rfl:i=2:=by omega
 have r8:Blk aox (aom.heap.size) 25 #[S ((mnR q x y).1),S ((mnR q x y).2)]:=r8;refine go ?_;refine SA sc (λ_ aov ao7=>?_);have⟨r8,aol,_⟩:=pl1 aov r8 aol;refine go ?_;refine f_out (v:=.agg #[S ((mnR q x y).1),S ((mnR q x y).2)]) (res1  rfl ?_) aol rfl;refine res_cellA (t:=4) (cs:=[S ((mnR q x y).1),S ((mnR q x y).2)]) (b:=w.heap.size) (o:=0) U36 rfl sz36 ?_ ?_;exact rfl;exact Blk.cells ao7 (i:=0) rfl
def minQ (a b c d:Int):R:=mnR (decide (cmpI (c*b) (a*d)<0)) (qR a b) (qR c d)
def maxQ (a b c d:Int):R:=mnR (decide (0<cmpI (c*b) (a*d))) (qR a b) (qR c d)
theorem maxFunc_ok {A:Option Addr}{cp lo:Nat}{x y:R}{k:Int}{q:Bool}{w:World}(hr:Rw w lo A (cellsR [x,y]))(hq:decide (0<k)=q)(hc:∀W,Ext w W->CL 21 #[.agg #[S y.1,S y.2],.agg #[S x.1,S x.2]] W (Ret W λv _=>v=.int .i64 k)):
    CL 128 #[.slice A 2 cp,.func (.func 21) #[] #[]] w (Ret w λv w'=>v=.agg #[S (mnR q x y).1,S (mnR q x y).2]):=by
 obtain⟨bk0,o0,hA0,hcs0⟩:=rw_pair hr (i:=0) (by simp);obtain⟨bk1,o1,hA1,hcs1⟩:=rw_pair hr (i:=1) (by simp);refine f_in Tryz.func128 rfl ?_;refine go ?_;refine al inf36 (λaom ao3 sc=>?_);have aon:=ao3.2;refine go ?_;refine l_op (k_indexAddr (i:=0) (oo:=o0+0*2) U23 sz36 rfl hA0 rfl dc rfl ?_);refine l_op (k_loadA (cs:=[S (x.1),S (x.2)]) (b:=bk0) (o:=o0+0*2) U36 rfl sz36 rfl (λj u hj=>Ext.cell aon (hcs0 j u hj)) ?_);refine al inf36 (λ_ aow ao4=>?_);have⟨sc,aon⟩:=be1 aow.2 sc aon;refine SA ao4 (λao5 aoq r8=>?_);have⟨sc,aon,_⟩:=pl1 aoq sc aon;refine go ?_;refine c_lp [(6,6),(14,31)] (λkk e W=>∃i:Nat,(2-i=kk)∧(e 6=.int .i64 i)∧(1<=i∧i<=2)∧(ao5.heap.size<=W.heap.size)∧(Ext w W)∧(Blk W (w.heap.size) 25 #[S ([]),S ([])])∧(Blk W (aom.heap.size) 25 #[S ((mnA q x y i).1),S ((mnA q x y i).2)])) (2-1) ⟨1,rfl,rfl,dc,(Nat.le_refl _),aon,sc,r8⟩ ?_;rintro _ _ aox ⟨i,rfl,aoo,hi,apc,aol,sc,r8⟩;have apd:=bz aol;by_cases h0:i<2;obtain rfl:i=1:=by omega
 have r8:Blk aox (aom.heap.size) 25 #[S (x.1),S (x.2)]:=r8;refine go ?_;refine c_an 6 ?_;refine sf ?_;refine sf_ap (λ_ _ _ _=>by refine l_op (k_indexAddr (i:=1) (oo:=o1+1*2) U23 sz36 rfl hA1 rfl dc rfl ?_);refine go ?_;exact finp) ?_;refine sf_ap (λ_ _ aor _=>by refine l_op (k_loadA (cs:=[S (y.1),S (y.2)]) (b:=bk1) (o:=o1+1*2) U36 rfl sz36 rfl (λj u hj=>Ext.cell (xt aol aor) (hcs1 j u hj)) ?_);refine go ?_;exact finp) ?_;refine sf ?_;intro _ _ aos _;have⟨sc,r8,aol⟩:=be2 aos.2 sc r8 aol;refine l_op (clV (vs:=[.agg #[S (y.1),S (y.2)],.agg #[S (x.1),S (x.2)]]) (lb:=[]) en49 rfl rfl (hc _ aol) ?_);rintro _ _ aot rfl;have⟨sc,r8,aol⟩:=be2 aot.2 sc r8 aol;refine go ?_;by_cases aop:0<k;refine go ?_;refine l_op (k_indexAddr (i:=1) (oo:=o1+1*2) U23 sz36 rfl hA1 rfl dc rfl ?_);refine l_op (k_loadA (cs:=[S (y.1),S (y.2)]) (b:=bk1) (o:=o1+1*2) U36 rfl sz36 rfl (λj u hj=>Ext.cell aol (hcs1 j u hj)) ?_);refine SA r8 (λ_ aou ao6=>?_);have⟨sc,aol,_⟩:=pl1 aou sc aol;refine go ?_;refine l_op (k_add (a:=1) (b:=1) (c:=2) rfl rfl (by unfold In64;omega) rfl ?_);refine go ?_;exact lend (hk:=by decide) ⟨2,rfl,rfl,dc,om,aol,sc,(by rw[mnA_2,mn_t (hq.symm.trans (decide_eq_true aop))];exact ao6)⟩;refine go ?_;refine l_op (k_add (a:=1) (b:=1) (c:=2) rfl rfl (by unfold In64;omega) rfl ?_);refine go ?_
 exact lend (hk:=by decide) ⟨2,rfl,rfl,dc,om,aol,sc,(by rw[mnA_2,mn_f (hq.symm.trans (decide_eq_false aop))];exact r8)⟩;obtain rfl:i=2:=by omega
 have r8:Blk aox (aom.heap.size) 25 #[S ((mnR q x y).1),S ((mnR q x y).2)]:=r8;refine go ?_;refine SA sc (λ_ aov ao7=>?_);have⟨r8,aol,_⟩:=pl1 aov r8 aol;refine go ?_;refine f_out (v:=.agg #[S ((mnR q x y).1),S ((mnR q x y).2)]) (res1  rfl ?_) aol rfl;refine res_cellA (t:=4) (cs:=[S ((mnR q x y).1),S ((mnR q x y).2)]) (b:=w.heap.size) (o:=0) U36 rfl sz36 ?_ ?_;exact rfl;exact Blk.cells ao7 (i:=0) rfl
theorem least_ok {A:Option Addr}{cp lo:Nat}{a b c d:Int}{w:World}(hr:Rw w lo A (cellsR [qR a b,qR c d]))(h1:Q9 a b)(h2:Q9 c d)(ht:Tb w):
    CL 59 #[.slice A 2 cp] w (Ret w λv w'=>v=.agg #[S ((minQ a b c d).1),S ((minQ a b c d).2)]):=by
 refine f_in Tryz.func59 rfl ?_;refine go ?_;refine al inf36 (λ_ aon sc=>?_);have r8:=aon.2;refine go ?_;refine cl en2087 (minFunc_ok (x:=qR a b) (y:=qR c d) (hr.ext r8) rfl (λW e=>qCmpX h2 h1 ((ht.ext r8).ext e))) ?_;rintro _ _ aol rfl;have⟨sc,r8⟩:=be1 aol.2 sc r8;refine SA sc (λ_ aom aoo=>?_);have r8:=plw aom r8;have aot:=psz aom;refine go ?_;refine f_out (v:=.agg #[S ((minQ a b c d).1),S ((minQ a b c d).2)]) (res1  rfl ?_) r8 rfl;refine res_cellA (t:=2) (cs:=[S ((minQ a b c d).1),S ((minQ a b c d).2)]) (b:=w.heap.size) (o:=0) U36 rfl sz36 ?_ ?_;exact rfl;exact Blk.cells aoo (i:=0) rfl
theorem most_ok {A:Option Addr}{cp lo:Nat}{a b c d:Int}{w:World}(hr:Rw w lo A (cellsR [qR a b,qR c d]))(h1:Q9 a b)(h2:Q9 c d)(ht:Tb w):
    CL 77 #[.slice A 2 cp] w (Ret w λv w'=>v=.agg #[S ((maxQ a b c d).1),S ((maxQ a b c d).2)]):=by
 refine f_in Tryz.func77 rfl ?_;refine go ?_;refine al inf36 (λ_ aon sc=>?_);have r8:=aon.2;refine go ?_;refine cl en2088 (maxFunc_ok (x:=qR a b) (y:=qR c d) (hr.ext r8) rfl (λW e=>qCmpX h2 h1 ((ht.ext r8).ext e))) ?_;rintro _ _ aol rfl;have⟨sc,r8⟩:=be1 aol.2 sc r8;refine SA sc (λ_ aom aoo=>?_);have r8:=plw aom r8;have aot:=psz aom;refine go ?_;refine f_out (v:=.agg #[S ((maxQ a b c d).1),S ((maxQ a b c d).2)]) (res1  rfl ?_) r8 rfl;refine res_cellA (t:=2) (cs:=[S ((maxQ a b c d).1),S ((maxQ a b c d).2)]) (b:=w.heap.size) (o:=0) U36 rfl sz36 ?_ ?_;exact rfl;exact Blk.cells aoo (i:=0) rfl
theorem scaled_ok {a b c d s t:Int}{w:World}(h1:Q9 a b)(h2:Q9 c d)(h3:Q9 s t)(h4:Q9 (a*d-c*b) (b*d))(hs:0<s)(ht:Tb w):
    CL 58 #[.agg #[S (qR a b).1,S (qR a b).2],.agg #[S (qR c d).1,S (qR c d).2],.agg #[S (qR s t).1,S (qR s t).2]] w (Ret w λv w'=>v=.agg #[S ((qR ((a*d-c*b)*t) (b*d*s)).1),S ((qR ((a*d-c*b)*t) (b*d*s)).2)]):=by
 refine f_in Tryz.func58 rfl ?_;refine go ?_;refine bx (λ_ ao9 r8=>?_);have aon:=ao9.2;refine bx (λ_ ao6 sc=>?_);have⟨r8,aon⟩:=be1 ao6.2 r8 aon;refine bx (λao7 ao5 aol=>?_);have⟨r8,sc,aon⟩:=be2 ao5.2 r8 sc aon;refine al inf36 (λ_ aow aom=>?_);have⟨r8,sc,aol,aon⟩:=be3 aow.2 r8 sc aol aon;refine go ?_;refine c_an 10 ?_;refine sf ?_;refine sf_ae (V:=.tuple #[.agg #[S ((qR (a*d-c*b) (b*d)).1),S ((qR (a*d-c*b) (b*d)).2)],.int .i64 0]) (λ_ _ aoo _=>?_) ?_;refine cl en220 (qSubX h1 h2 (ht.ext (xt aon aoo))) ?_;rintro _ _ aop rfl;have apb:=aop.2;refine go ?_;exact fs ⟨apb,rfl⟩;refine sf ?_;refine sf_ae (V:=.agg #[S ((qR (a*d-c*b) (b*d)).1),S ((qR (a*d-c*b) (b*d)).2)]) (λ_ _ _ _=>?_) ?_;refine cl en2152 rmust_ok ?_;rintro _ _ aoq rfl;have apc:=aoq.2;refine go ?_;exact fs ⟨apc,rfl⟩;refine sf ?_;refine sf_ae (V:=.tuple #[.agg #[S ((qR ((a*d-c*b)*t) ((b*d)*s)).1),S ((qR ((a*d-c*b)*t) ((b*d)*s)).2)],.int .i64 0]) (λ_ _ aor _=>?_) ?_;refine cl en218 (qDivX h4 h3 hs (ht.ext (xt aon aor))) ?_;rintro _ _ aos rfl;have apd:=aos.2;refine go ?_;exact fs ⟨apd,rfl⟩;refine sf ?_;intro _ _ aot _;have⟨r8,sc,aol,aom,aon⟩:=be4 aot.2 r8 sc aol aom aon;refine cl en2152 rmust_ok ?_;rintro _ _ aou rfl;have⟨r8,sc,aol,aom,aon⟩:=be4 aou.2 r8 sc aol aom aon;refine SA aom (λ_ aov ape=>?_);have⟨r8,sc,aol,aon,_⟩:=pl3 aov r8 sc aol aon
 refine go ?_;refine f_out (v:=.agg #[S ((qR ((a*d-c*b)*t) ((b*d)*s)).1),S ((qR ((a*d-c*b)*t) ((b*d)*s)).2)]) (res1  rfl ?_) aon rfl;refine res_cellA (t:=6) (cs:=[S ((qR ((a*d-c*b)*t) ((b*d)*s)).1),S ((qR ((a*d-c*b)*t) ((b*d)*s)).2)]) (b:=ao7.heap.size) (o:=0) U36 rfl sz36 ?_ ?_;exact rfl;exact Blk.cells ape (i:=0) rfl
theorem riskRight_ok {pl:Nat}{w:World}(h1:1<=pl)(h12:pl<=12):
    CL 35 #[.int .i64 pl] w (Ret w λv w'=>v=.bool true):=by
 refine f_in Tryz.func35 rfl ?_;refine go ?_;exact f_ret1 (t:=2) (v:=.bool (decide ((pl:Int)<=12))) rfl (Ext.refl _) (congrArg Value.bool (decide_eq_true om)) rfl
def ShR (q:R):Prop:=∃a b:Int,q=qR a b∧Q9 a b∧a.natAbs<10^12∧b<10^12
theorem riskShort_ok {l m:List UInt8}{a b:Int}{w:World}(e:(l,m)=qR a b)(h:Q9 a b)(ha:a.natAbs<10^12)(hb:b<10^12)(ht:Tb w):
    CL 52 #[.agg #[S l,S m]] w (Ret w λv w'=>v=.bool true):=by
 have h1:=short_1 e h ha;have h2:=short_2 e h hb;refine f_in Tryz.func52 rfl ?_;refine go ?_;refine bx (λ_ aon r8=>?_);have sc:=aon.2;refine go ?_;refine cl en82 (cB (rValid_ok _ _ _ (ht.ext sc)) (okL e h)) ?_;rintro _ _ aol rfl;have⟨r8,sc⟩:=be1 aol.2 r8 sc;refine go ?_;refine cl en136 (body_ok _ _) ?_;rintro _ _ aom rfl;have⟨r8,sc⟩:=be1 aom.2 r8 sc;refine go ?_;refine l_op (k_lenL (l:=body l) U9 rfl ?_);refine go ?_;refine l_op (k_lenL (l:=m) U9 rfl ?_);refine go ?_;exact f_ret1 (t:=2) (v:=.bool (decide ((((m).length:Nat):Int)<=12))) rfl sc (congrArg Value.bool (decide_eq_true h2)) rfl
theorem notShort_ok {l m:List UInt8}{a b:Int}{w:World}(e:(l,m)=qR a b)(h:Q9 a b)(ha:a.natAbs<10^12)(hb:b<10^12)(ht:Tb w):
    CL 86 #[.agg #[S l,S m]] w (Ret w λv w'=>v=.bool false):=by
 refine f_in Tryz.func86 rfl ?_;refine go ?_;refine bx (λ_ aom _=>?_);have r8:=aom.2;refine go ?_;refine cl en2148 (riskShort_ok e h ha hb (ht.ext r8)) ?_;rintro _ _ aol rfl;have r8:=xt r8 aol.2;refine go ?_;exact f_ret1 (t:=2) (v:=.bool false) rfl r8 rfl rfl
theorem indexR_ok {A:Option Addr}{n cp lo g:Nat}{l:List R}{w:World}(hr:Rw w lo A (cellsR l))(hn:l.length=n)(hb:n<=1000)(hg:Enters Tryz.prog g)(hf:∀i<n,∀W,Ext w W->CL g #[.agg #[S (rAt l i).1,S (rAt l i).2]] W (Ret W λv _=>v=.bool false)):
    CL 135 #[.slice A n cp,.func (.func g) #[] #[]] w (Ret w λv w'=>v=.int .i64 (-1)):=by
 refine f_in Tryz.func135 rfl ?_;refine go ?_;have aol:=Ext.refl w;refine c_lp [(4,5),(8,18)] (λkk e W=>∃i:Nat,(n-i=kk)∧(e 8=.int .i64 i)∧(i<=n)∧(Ext w W)) (n-0) ⟨0,rfl,rfl,(Nat.zero_le _),aol⟩ ?_;rintro _ _ _ ⟨i,rfl,sc,hi,r8⟩;have aoq:=bz r8;by_cases hl:i<n;obtain⟨bk,o,hA,hcs⟩:=rw_pair (hr.ext r8) (i:=i) om;refine go ?_;refine l_op (k_indexAddr (i:=i) (oo:=o+i*2) U23 sz36 rfl hA rfl om rfl ?_);refine l_op (k_loadA (cs:=[S (rAt l i).1,S (rAt l i).2]) (b:=bk) (o:=o+i*2) U36 rfl sz36 rfl hcs ?_);refine l_op (clV (vs:=[.agg #[S (rAt l i).1,S (rAt l i).2]]) (lb:=[]) hg rfl rfl (hf i om _ r8) ?_);rintro _ _ aom rfl;have r8:=xt r8 aom.2;refine go ?_;refine l_op (k_add (a:=(i:Int)) (b:=1) (c:=((i+1:Nat):Int)) sc rfl (by unfold In64;omega) om ?_);refine go ?_;exact lend ⟨i+1,rfl,rfl,om,r8⟩;refine go ?_;exact f_ret1 (t:=4) (v:=.int .i64 ((-1))) rfl r8 rfl rfl
theorem containsR_ok {A:Option Addr}{n cp lo g:Nat}{l:List R}{w:World}(hr:Rw w lo A (cellsR l))(hn:l.length=n)(hb:n<=1000)(hg:Enters Tryz.prog g)(hf:∀i<n,∀W,Ext w W->CL g #[.agg #[S (rAt l i).1,S (rAt l i).2]] W (Ret W λv _=>v=.bool false)):
    CL 85 #[.slice A n cp,.func (.func g) #[] #[]] w (Ret w λv w'=>v=.bool false):=by
 refine f_in Tryz.func85 rfl ?_;refine go ?_;refine cl en116 (indexR_ok (hr.ext (Ext.refl _)) hn hb hg (λi hi W e=>hf i hi W (xt (Ext.refl _) e))) ?_;rintro _ _ r8 rfl;have sc:=r8.2;refine go ?_;exact f_ret1 (t:=4) (v:=.bool false) rfl sc rfl rfl
theorem rAt_mem {l:List R}{i:Nat}(h:i<l.length):rAt l i∈l:=by unfold rAt;simp[h]
theorem areShort_ok {A:Option Addr}{n cp lo:Nat}{l:List R}{w:World}(hr:Rw w lo A (cellsR l))(hn:l.length=n)(hb:n<=1000)(hs:∀q∈l,ShR q)(ht:Tb w):
    CL 44 #[.slice A n cp] w (Ret w λv w'=>v=.bool true):=by
 refine f_in Tryz.func44 rfl ?_;refine go ?_;refine clb en90 (hc:=containsR_ok (hr.ext (Ext.refl _)) hn hb en2147 (λi hi W e=>by obtain⟨a,b,e1,e2,e3,e4⟩:=hs _ (rAt_mem (l:=l) (i:=i) om);exact notShort_ok e1 e2 e3 e4 ((ht.ext (Ext.refl _)).ext e))) (hk:=?_);rintro _ _ r8 rfl;have sc:=r8.2;refine go ?_;exact f_ret1 (t:=2) (v:=.bool true) rfl sc rfl rfl
end Go.Proofs.YtmehbpjpbbhohaaGreatDoor
