/- Part of the proof of a statement about risks. -/
import Derived.Test.YtmehbpjpbbhohaaGreatDoorRj3ToRj7
import Derived.Test.YtmehbpjpbbhohaaGreatDoorEngPToEngH
import Derived.Test.YtmehbpjpbbhohaaGreatDoorRat1ToSp2
import Derived.Test.YtmehbpjpbbhohaaGreatDoorDcAToRj2
import Derived.Test.YtmehbpjpbbhohaaGreatDoorRi2ToRi8
import Derived.Test.YtmehbpjpbbhohaaGreatDoorSp16ToRi1
set_option linter.all false
namespace Go.Proofs.YtmehbpjpbbhohaaGreatDoor
set_option maxRecDepth 100000
open Go Go.Eng Go.RowKit
attribute [local irreducible] wpListIn Code.wpIn Oper.wpIn Exit.then Exit.inBlock Exit.noGoto
set_option maxHeartbeats 40000000
theorem erRj8 {w:World}:Ext w w:=Ext.refl _
theorem cmp_T {x y T:Int}(hT:0<T):cmpI (x*T) (y*T)=cmpI x y:=
  cmpI_iff ⟨λh=>Int.lt_of_mul_lt_mul_right h (Int.le_of_lt hT),λh=>Int.mul_lt_mul_of_pos_right h hT⟩ ⟨λh=>Int.eq_of_mul_eq_mul_right om h,λh=>by rw[h]⟩
def mx4 (a b c d:Int)(i:Nat):Int:=if i<=1 then a else if i=2 then b else if i=3 then max b c else d
theorem mxstep {x y z T:Int}(h:z=max x y):qR z T=mnR (decide (0<cmpI y x)) (qR x T) (qR y T):=by
  by_cases k:x<y
  · rw[mn_t (decide_eq_true (cmpI_gt0 k)),h,show max x y=y by omega]
  · rw[mn_f (decide_eq_false (cmpI_ngt k)),h,show max x y=x by omega]
theorem hullP_ok {A:Option Addr}{cp lo:Nat}{a b c d T:Int}{w:World}(hr:Rw w lo A (cellsR [qR a T,qR b T,qR c T,qR d T]))(h1:a<=b)(h2:a<=c)(h3:b<=d)(h4:c<=d)(qa:Q9 a T)(qb:Q9 b T)(qc:Q9 c T)(qd:Q9 d T)(ht:Tb w):
    CL 110 #[.slice A 4 cp] w (Ret w λv _=>v=IV a T d T):=by
  have hT:=qa.2.1
  have qm:Q9 (max b c) T:=by rcases(by omega:max b c=b∨max b c=c)with e|e <;>rw[e] <;>assumption
  have key:∀i,1<=i->i<4->(i=1∨i=2∨i=3):=λi h _=>by omega
  refine hullN_ok (ka:=a) (kb:=T) (ua:=d) (ub:=T) (λW e=>?_) (λW e=>?_)
  · refine minFuncN_ok (l:=[qR a T,qR b T,qR c T,qR d T]) (M:=λ_=>qR a T) (k:=λi=>cmpI (if i=1 then b else if i=2 then c else d) a) (hr.ext e) rfl dc dc rfl (λi i1 i4=>?_) (λi i1 i4 W' e'=>?_)
    · rcases key i i1 i4 with rfl|rfl|rfl <;>exact(mn_f (decide_eq_false (by rw[cmpI_neg];simp;omega))).symm
    · have h:=λx (q:Q9 x T)=>qCmpX q qa ((ht.ext e).ext e')
      simp only[cmp_T hT]at h
      rcases key i i1 i4 with rfl|rfl|rfl
      · exact h b qb
      · exact h c qc
      · exact h d qd
  · refine maxFuncN_ok (l:=[qR a T,qR b T,qR c T,qR d T]) (M:=λi=>qR (mx4 a b c d i) T) (k:=λi=>cmpI (if i=1 then b else if i=2 then c else d) (mx4 a b c d i)) (hr.ext e) rfl dc dc rfl (λi i1 i4=>?_) (λi i1 i4 W' e'=>?_)
    · rcases key i i1 i4 with rfl|rfl|rfl
      · exact mxstep (by show b=max a b;omega)
      · exact mxstep (by show max b c=max b c;rfl)
      · exact mxstep (by show d=max (max b c) d;omega)
    · have h:=λx y (q:Q9 x T) (q':Q9 y T)=>qCmpX q q' ((ht.ext e).ext e')
      simp only[cmp_T hT]at h
      rcases key i i1 i4 with rfl|rfl|rfl
      · exact h b a qb qa
      · exact h c b qc qb
      · exact h d (max b c) qd qm
theorem ends_ok {m1 m2 c1 c2:Int}{pl:Nat}{w:World}(qm1:Q9 m1 (tenI pl))(qm2:Q9 m2 (tenI pl))(qc1:Q9 c1 (tenI pl))(qc2:Q9 c2 (tenI pl))(p11:Q9 (m1*c1) (tenI pl*tenI pl))(p12:Q9 (m1*c2) (tenI pl*tenI pl))(p21:Q9 (m2*c1) (tenI pl*tenI pl))(p22:Q9 (m2*c2) (tenI pl*tenI pl))(l1:m1*c1<=m1*c2)(l2:m1*c1<=m2*c1)(l3:m1*c2<=m2*c2)(l4:m2*c1<=m2*c2)(ht:Tb w):
    CL 133 #[.func (.func 18) #[] #[],IV m1 (tenI pl) m2 (tenI pl),IV c1 (tenI pl) c2 (tenI pl)] w (Ret w λv w'=>v=IV (m1*c1) (tenI pl*tenI pl) (m2*c2) (tenI pl*tenI pl)):=by
 refine f_in Tryz.func133 rfl ?_;refine go ?_;refine bx (λr8 aps aol=>?_);have aoo:=aps.2;refine bx (λaoz apa aoq=>?_);have⟨aol,aoo⟩:=be1 apa.2 aol aoo;refine al inf1032 (λapb ao0 apt=>?_);have⟨aol,aoq,aoo⟩:=be2 ao0.2 aol aoq aoo;refine go ?_;refine c_dv hmix 23 [7,8,9,10,11,12,13,14,15,16,17,18,19,20,21,22,23,24,25,26,27,28,29] [some (7,.func (.func 18) #[] #[]),some (8,pT w.heap.size),some (9,QV m1 (tenI pl)),some (10,pT r8.heap.size),some (11,QV c1 (tenI pl)),some (12,QV (m1*c1) (tenI pl*tenI pl)),some (13,.func (.func 18) #[] #[]),some (14,pT w.heap.size),some (15,QV m1 (tenI pl)),some (16,.pointer (some ⟨r8.heap.size,2,none⟩)),some (17,QV c2 (tenI pl)),some (18,QV (m1*c2) (tenI pl*tenI pl)),some (19,.func (.func 18) #[] #[]),some (20,.pointer (some ⟨w.heap.size,2,none⟩)),some (21,QV m2 (tenI pl)),some (22,pT r8.heap.size),some (23,QV c1 (tenI pl)),some (24,QV (m2*c1) (tenI pl*tenI pl)),some (25,.func (.func 18) #[] #[]),some (26,.pointer (some ⟨w.heap.size,2,none⟩)),some (27,QV m2 (tenI pl)),some (28,.pointer (some ⟨r8.heap.size,2,none⟩)),some (29,QV c2 (tenI pl))] (XE apb) (Ext.drew apb) (by kernel_rfl) (by kernel_rfl) (by kernel_rfl) ?_ ?_;refine⟨λary _ _ apu _ apv _ _ _=>?_,?_⟩;obtain⟨ary,rfl⟩:=ovE apu;refine go ?_;exact dvE rfl apv erRj8;refine⟨λar5 _ _ apw _ apx _ _ _=>?_,?_⟩;obtain⟨ar5,rfl⟩:=ovE apw
 refine go ?_;exact dvE rfl apx erRj8;refine⟨λapy _ _ ase apz apc _ _ _=>?_,?_⟩;obtain⟨apy,rfl⟩:=ovE ase;have ap0:=zpv (apz 1 _ _ rfl rfl);have ap1:=(be apc aol);refine go ?_;exact dvE rfl apc erRj8;refine⟨λasi _ _ ap2 _ ap3 _ _ _=>?_,?_⟩;obtain⟨asi,rfl⟩:=ovE ap2;refine go ?_;exact dvE rfl ap3 erRj8;refine⟨λap4 _ _ ass ap5 apd _ _ _=>?_,?_⟩;obtain⟨ap4,rfl⟩:=ovE ass;have ap6:=zpv (ap5 3 _ _ rfl rfl);have ap7:=(be apd aoq);refine go ?_;exact dvE rfl apd erRj8;refine⟨λao1 _ _ asy ao2 ape _ _ _=>?_,?_⟩;obtain⟨ao1,rfl⟩:=ovE asy;have ap8:=zpv (ao2 0 _ _ rfl rfl);have ap9:=zpv (ao2 2 _ _ rfl rfl);have aqa:=zpv (ao2 4 _ _ rfl rfl);have ao3:=xt aoo ape;refine cl en1055 (ofMul_ok qm1 qc1 (ht.ext ao3)) ?_ (cons_eq ap8 (cons_eq ap9 (cons_eq aqa rfl)));rintro _ _ apf rfl;refine go ?_;exact dvE rfl ape apf.2;refine⟨λas4 _ _ aqb _ aqc _ _ _=>?_,?_⟩;obtain⟨as4,rfl⟩:=ovE aqb;refine go ?_;exact dvE rfl aqc erRj8;refine⟨λatb _ _ aqd _ aqe _ _ _=>?_,?_⟩;obtain⟨atb,rfl⟩:=ovE aqd;refine go ?_;exact dvE rfl aqe erRj8;refine⟨λaqf _ _ atk aqg apg _ _ _=>?_,?_⟩;obtain⟨aqf,rfl⟩:=ovE atk;have aqh:=zpv (aqg 7 _ _ rfl rfl);have aqi:=(be apg aol);refine go ?_;exact dvE rfl apg erRj8;refine⟨λato _ _ aqj _ aqk _ _ _=>?_,?_⟩;obtain⟨ato,rfl⟩:=ovE aqj;refine go ?_
 exact dvE rfl aqk erRj8;refine⟨λaql _ _ aty aqm aph _ _ _=>?_,?_⟩;obtain⟨aql,rfl⟩:=ovE aty;have aqn:=zpv (aqm 9 _ _ rfl rfl);have aqo:=(be aph aoq);refine go ?_;exact dvE rfl aph erRj8;refine⟨λao4 _ _ at4 ao5 api _ _ _=>?_,?_⟩;obtain⟨ao4,rfl⟩:=ovE at4;have aqp:=zpv (ao5 6 _ _ rfl rfl);have aqq:=zpv (ao5 8 _ _ rfl rfl);have aqr:=zpv (ao5 10 _ _ rfl rfl);have ao6:=xt aoo api;refine cl en1055 (ofMul_ok qm1 qc2 (ht.ext ao6)) ?_ (cons_eq aqp (cons_eq aqq (cons_eq aqr rfl)));rintro _ _ apj rfl;refine go ?_;exact dvE rfl api apj.2;refine⟨λaub _ _ aqs _ aqt _ _ _=>?_,?_⟩;obtain⟨aub,rfl⟩:=ovE aqs;refine go ?_;exact dvE rfl aqt erRj8;refine⟨λaui _ _ aqu _ aqv _ _ _=>?_,?_⟩;obtain⟨aui,rfl⟩:=ovE aqu;refine go ?_;exact dvE rfl aqv erRj8;refine⟨λaqw _ _ aur aqx apk _ _ _=>?_,?_⟩;obtain⟨aqw,rfl⟩:=ovE aur;have aqy:=zpv (aqx 13 _ _ rfl rfl);have aqz:=(be apk aol);refine go ?_;exact dvE rfl apk erRj8;refine⟨λauv _ _ aq0 _ aq1 _ _ _=>?_,?_⟩;obtain⟨auv,rfl⟩:=ovE aq0;refine go ?_;exact dvE rfl aq1 erRj8;refine⟨λaq2 _ _ au4 aq3 apl _ _ _=>?_,?_⟩;obtain⟨aq2,rfl⟩:=ovE au4;have aq4:=zpv (aq3 15 _ _ rfl rfl);have aq5:=(be apl aoq);refine go ?_;exact dvE rfl apl erRj8;refine⟨λao7 _ _ ava ao8 apm _ _ _=>?_,?_⟩;obtain⟨ao7,rfl⟩:=ovE ava
 have aq6:=zpv (ao8 12 _ _ rfl rfl);have aq7:=zpv (ao8 14 _ _ rfl rfl);have aq8:=zpv (ao8 16 _ _ rfl rfl);have ao9:=xt aoo apm;refine cl en1055 (ofMul_ok qm2 qc1 (ht.ext ao9)) ?_ (cons_eq aq6 (cons_eq aq7 (cons_eq aq8 rfl)));rintro _ _ apn rfl;refine go ?_;exact dvE rfl apm apn.2;refine⟨λavg _ _ aq9 _ ara _ _ _=>?_,?_⟩;obtain⟨avg,rfl⟩:=ovE aq9;refine go ?_;exact dvE rfl ara erRj8;refine⟨λavn _ _ arb _ arc _ _ _=>?_,?_⟩;obtain⟨avn,rfl⟩:=ovE arb;refine go ?_;exact dvE rfl arc erRj8;refine⟨λard _ _ avw arf apo _ _ _=>?_,?_⟩;obtain⟨ard,rfl⟩:=ovE avw;have arh:=zpv (arf 19 _ _ rfl rfl);have ari:=(be apo aol);refine go ?_;exact dvE rfl apo erRj8;refine⟨λav0 _ _ arj _ ark _ _ _=>?_,?_⟩;obtain⟨av0,rfl⟩:=ovE arj;refine go ?_;exact dvE rfl ark erRj8;refine⟨λarl _ _ av9 arm apq _ _ _=>?_,?_⟩;obtain⟨arl,rfl⟩:=ovE av9;have arn:=zpv (arm 21 _ _ rfl rfl);have aro:=(be apq aoq);refine go ?_;exact dvE rfl apq erRj8;exact trivial;intro aor _ _ _ arp aos aot;obtain⟨aor,rfl⟩:=ovE arp;have aom:=(be aot aol);have awg:=bt aom;have aon:=(be aot aoq);have awh:=bt aon;have aop:=(be aot apt);have awi:=bt aop;have sc:=xt aoo aot;have awj:=bz sc;have awk:=bz aot;have arq:=zpv (aos 18 _ _ rfl rfl);have arr:=zpv (aos 20 _ _ rfl rfl);have ars:=zpv (aos 22 _ _ rfl rfl)
 refine cl en1055 (ofMul_ok qm2 qc2 (ht.ext sc)) ?_ (cons_eq arq (cons_eq arr (cons_eq ars rfl)));rintro _ _ aox rfl;have⟨aom,aon,aop,sc⟩:=be3 aox.2 aom aon aop sc;have aru:=zpv (aos 5 _ _ rfl rfl);have arv:=zpv (aos 11 _ _ rfl rfl);have arw:=zpv (aos 17 _ _ rfl rfl);refine l_op (k_bsB (vs:=[(0,QV (m1*c1) (tenI pl*tenI pl)),(1,QV (m1*c2) (tenI pl*tenI pl)),(2,QV (m2*c1) (tenI pl*tenI pl)),(3,QV (m2*c2) (tenI pl*tenI pl))]) (cells:=#[S ((qR (m1*c1) (tenI pl*tenI pl)).1),S ((qR (m1*c1) (tenI pl*tenI pl)).2),S ((qR (m1*c2) (tenI pl*tenI pl)).1),S ((qR (m1*c2) (tenI pl*tenI pl)).2),S ((qR (m2*c1) (tenI pl*tenI pl)).1),S ((qR (m2*c1) (tenI pl*tenI pl)).2),S ((qR (m2*c2) (tenI pl*tenI pl)).1),S ((qR (m2*c2) (tenI pl*tenI pl)).2)]) U23 inf36 (cons_eqp aru (cons_eqp arv (cons_eqp arw (cons_eqp rfl rfl)))) dc dc (by kernel_rfl) (λ_ aoy aou=>?_));have⟨aom,aon,aop,sc⟩:=be3 aoy.2 aom aon aop sc;refine cl en2049 (hullP_ok (Rw.of_own (rw_blk (m:=4) aou rfl)) l1 l2 l3 l4 p11 p12 p21 p22 (ht.ext sc)) ?_;rintro _ _ aov rfl;have⟨aom,aon,aop,aou,sc⟩:=be4 aov.2 aom aon aop aou sc;refine SA aop (λ_ aow arx=>?_);have⟨aom,aon,aou,sc,_⟩:=pl3 aow aom aon aou sc;refine go ?_;refine f_out (v:=IV (m1*c1) (tenI pl*tenI pl) (m2*c2) (tenI pl*tenI pl)) (res1  rfl ?_) sc rfl
 refine res_cellA (t:=6) (cs:=[S ((qR (m1*c1) (tenI pl*tenI pl)).1),S ((qR (m1*c1) (tenI pl*tenI pl)).2),S ((qR (m2*c2) (tenI pl*tenI pl)).1),S ((qR (m2*c2) (tenI pl*tenI pl)).2)]) (b:=aoz.heap.size) (o:=0) U1032 rfl sz1032 ?_ ?_;exact rfl;exact Blk.cells arx (i:=0) rfl
theorem mul1_ok {m1 m2 c1 c2:Int}{pl:Nat}{b1 b2:Nat}{w:World}(qm1:Q9 m1 (tenI pl))(qm2:Q9 m2 (tenI pl))(qc1:Q9 c1 (tenI pl))(qc2:Q9 c2 (tenI pl))(p11:Q9 (m1*c1) (tenI pl*tenI pl))(p12:Q9 (m1*c2) (tenI pl*tenI pl))(p21:Q9 (m2*c1) (tenI pl*tenI pl))(p22:Q9 (m2*c2) (tenI pl*tenI pl))(l1:m1*c1<=m1*c2)(l2:m1*c1<=m2*c1)(l3:m1*c2<=m2*c2)(l4:m2*c1<=m2*c2)(hb1:Blk w b1 33 #[S ((qR m1 (tenI pl)).1),S ((qR m1 (tenI pl)).2),S ((qR m2 (tenI pl)).1),S ((qR m2 (tenI pl)).2)])(hb2:Blk w b2 33 #[S ((qR c1 (tenI pl)).1),S ((qR c1 (tenI pl)).2),S ((qR c2 (tenI pl)).1),S ((qR c2 (tenI pl)).2)])(ht:Tb w):
    CL 132 #[pT b1,pT b2] w (Ret w λv w'=>v=IV (m1*c1) (tenI pl*tenI pl) (m2*c2) (tenI pl*tenI pl)):=by
 have zb1:=bt hb1;have zb2:=bt hb2;refine f_in Tryz.func132 rfl ?_;refine go ?_;refine al inf1032 (λ_ aom aon=>?_);have⟨hb1,hb2⟩:=bf2 aom.2 hb1 hb2;have r8:=aom.2;refine go ?_;(try refine l_op (k_loadA (cs:=[S ((qR m1 (tenI pl)).1),S ((qR m1 (tenI pl)).2),S ((qR m2 (tenI pl)).1),S ((qR m2 (tenI pl)).2)]) (b:=b1) (o:=0) U1032 rfl sz1032 rfl (Blk.cells hb1 (i:=0) rfl) ?_));(try refine l_op (k_loadA (cs:=[S ((qR c1 (tenI pl)).1),S ((qR c1 (tenI pl)).2),S ((qR c2 (tenI pl)).1),S ((qR c2 (tenI pl)).2)]) (b:=b2) (o:=0) U1032 rfl sz1032 rfl (Blk.cells hb2 (i:=0) rfl) ?_));refine cl en1210 (ends_ok qm1 qm2 qc1 qc2 p11 p12 p21 p22 l1 l2 l3 l4 (ht.ext r8)) ?_;rintro _ _ sc rfl;have⟨hb1,hb2,aon,r8⟩:=be3 sc.2 hb1 hb2 aon r8;refine SA aon (λ_ aol aoo=>?_);have⟨hb1,hb2,r8,_⟩:=pl2 aol hb1 hb2 r8;refine go ?_;refine f_out (v:=IV (m1*c1) (tenI pl*tenI pl) (m2*c2) (tenI pl*tenI pl)) (res1  rfl ?_) r8 rfl;refine res_cellA (t:=2) (cs:=[S ((qR (m1*c1) (tenI pl*tenI pl)).1),S ((qR (m1*c1) (tenI pl*tenI pl)).2),S ((qR (m2*c2) (tenI pl*tenI pl)).1),S ((qR (m2*c2) (tenI pl*tenI pl)).2)]) (b:=w.heap.size) (o:=0) U1032 rfl sz1032 ?_ ?_;exact rfl;exact Blk.cells aoo (i:=0) rfl
theorem encMul_ok {m1 m2 c1 c2:Int}{pl:Nat}{w:World}(qm1:Q9 m1 (tenI pl))(qm2:Q9 m2 (tenI pl))(qc1:Q9 c1 (tenI pl))(qc2:Q9 c2 (tenI pl))(p11:Q9 (m1*c1) (tenI pl*tenI pl))(p12:Q9 (m1*c2) (tenI pl*tenI pl))(p21:Q9 (m2*c1) (tenI pl*tenI pl))(p22:Q9 (m2*c2) (tenI pl*tenI pl))(l1:m1*c1<=m1*c2)(l2:m1*c1<=m2*c1)(l3:m1*c2<=m2*c2)(l4:m2*c1<=m2*c2)(hx:IvR (qR m1 (tenI pl),qR m2 (tenI pl)))(hy:IvR (qR c1 (tenI pl),qR c2 (tenI pl)))(ht:Tb w):
    CL 82 #[IV m1 (tenI pl) m2 (tenI pl),IV c1 (tenI pl) c2 (tenI pl)] w (Ret w λv w'=>v=.tuple #[IV (m1*c1) (tenI pl*tenI pl) (m2*c2) (tenI pl*tenI pl),.int .i64 0]):=by
 refine f_in Tryz.func82 rfl ?_;refine go ?_;refine bx (λaoq aou sc=>?_);have r8:=aou.2;refine bx (λaos aot aol=>?_);have⟨sc,r8⟩:=be1 aot.2 sc r8;refine al inf1032 (λ_ aor aom=>?_);have⟨sc,aol,r8⟩:=be2 aor.2 sc aol r8;refine go ?_;refine l_op (k_makeFunc (vf:=[]) (vc:=[pT w.heap.size,pT aoq.heap.size]) rfl rfl ?_);(try refine l_op (k_loadA (cs:=[S ((qR m1 (tenI pl)).1),S ((qR m1 (tenI pl)).2),S ((qR m2 (tenI pl)).1),S ((qR m2 (tenI pl)).2)]) (b:=w.heap.size) (o:=0) U1032 rfl sz1032 rfl (Blk.cells sc (i:=0) rfl) ?_));(try refine l_op (k_loadA (cs:=[S ((qR c1 (tenI pl)).1),S ((qR c1 (tenI pl)).2),S ((qR c2 (tenI pl)).1),S ((qR c2 (tenI pl)).2)]) (b:=aoq.heap.size) (o:=0) U1032 rfl sz1032 rfl (Blk.cells aol (i:=0) rfl) ?_));refine BS2 (λ_ aon _ aow=>?_);have⟨sc,aol,aom,r8⟩:=be3 aon sc aol aom r8;have ao0:=bz aon;refine clb en1053 (hc:=computeI_ok (l:=[(qR m1 (tenI pl),qR m2 (tenI pl)),(qR c1 (tenI pl),qR c2 (tenI pl))]) (x:=(qR (m1*c1) (tenI pl*tenI pl),qR (m2*c2) (tenI pl*tenI pl))) en3132 (Rw.of_own aow) rfl (by simp) (λz hz=>by rcases List.mem_cons.1 hz with h|h;exact h▸hx;rw[List.mem_singleton.1 h];exact hy) (λW e=>mul1_ok qm1 qm2 qc1 qc2 p11 p12 p21 p22 l1 l2 l3 l4 (sc.ext e) (aol.ext e) ((ht.ext r8).ext e)) (ht.ext r8)) (hk:=?_);rintro _ _ aoo rfl;have⟨sc,aol,aom,r8⟩:=be3 aoo.2 sc aol aom r8;refine go ?_;refine SA aom (λ_ aop aox=>?_)
 have⟨sc,aol,r8,_⟩:=pl2 aop sc aol r8;refine go ?_;refine f_out (v:=.tuple #[IV (m1*c1) (tenI pl*tenI pl) (m2*c2) (tenI pl*tenI pl),.int .i64 0]) (res2 (r1:=.cell 4 33) (r2:=.tmp 5) rfl ?_ ?_) r8 rfl;refine res_cellA (t:=4) (cs:=[S ((qR (m1*c1) (tenI pl*tenI pl)).1),S ((qR (m1*c1) (tenI pl*tenI pl)).2),S ((qR (m2*c2) (tenI pl*tenI pl)).1),S ((qR (m2*c2) (tenI pl*tenI pl)).2)]) (b:=aos.heap.size) (o:=0) U1032 rfl sz1032 ?_ ?_;exact rfl;exact Blk.cells aox (i:=0) rfl;exact res_tmp (t:=5) (by exact rfl) _
end Go.Proofs.YtmehbpjpbbhohaaGreatDoor
namespace Go.Proofs.YtmehbpjpbbhohaaGreatDoor
open Go Go.Eng Go.RowKit
def IterN (P:Program)(gf:Nat)(lb:List Value)(enc:Nat->List Value)(bs:List Nat)(Kq:World->Prop)(M:Nat)(w:World):Prop:=
  ∀ (l:Nat) (J:Nat->World->Prop) (W:World),Below w.heap.size w W->(∀k,Stab W.heap.size (J k))->
    (∀k W1,k<M->J k W1->Kq W1->YieldAt Fence.wide 7 P l (enc k).toArray W1 λe W'=>e=.returned (.bool true)∧J (k+1) W'∧KpC bs W1 W'∧Kq W')->
    J 0 W->Kq W->CallsIn Fence.wide 8 P gf (#[.func (.yield l) #[] #[]]++lb.toArray) W λe W'=>(∃v,e=.returned v)∧J M W'
structure KeepL (W W':World):Prop where
  size:W.heap.size<=W'.heap.size
  loop:∀(i:Nat) (r:Loop),W.heap[i]?=some (.loop r)->W'.heap[i]?=some (.loop r)
  dfr:∀(i:Nat) (d:Option (List Deferred)),W.heap[i]?=some (.deferred d)->W'.heap[i]?=some (.deferred d)
def NotLD (W:World)(b:Nat):Prop:=(∀r,W.heap[b]?≠some (.loop r))∧∀d,W.heap[b]?≠some (.deferred d)
theorem NotLD.blk {W:World}{b:Nat}{t:TypeId}{cs:Array Value}(h:Blk W b t cs):NotLD W b:=by
  unfold Blk at h
  exact⟨λr e=>(by rw[h]at e;cases e),λd e=>(by rw[h]at e;cases e)⟩
theorem KeepL.of {bs:List Nat}{W W':World}(h:Keeps bs W W')(hb:∀b∈bs,NotLD W b):KeepL W W':=by
  refine⟨h.size,λi r hi=>?_,λi d hi=>?_⟩
  · exact(h.block i (Array.getElem?_eq_some_iff.1 hi).1 (λhm=>(hb i hm).1 r hi)).trans hi
  · exact(h.block i (Array.getElem?_eq_some_iff.1 hi).1 (λhm=>(hb i hm).2 d hi)).trans hi
theorem BkM.keptL {W W':World}{b:Nat}{r:Loop}(h:BkM W b r)(k:KeepL W W'):BkM W' b r:=⟨k.loop _ _ h.1,k.dfr _ _ h.2⟩
def rndN (bs:List Nat)(Kq:World->Prop)(I:Nat->World->Prop)(k:Nat)(W:World):Exit->Act->World->Prop
  | .normal,_,W'=>KeepL W W'∧KpC bs W W'∧Kq W'∧I k W'
  |_,_,_=>False
theorem c_rangeN {P:Program}{w:World}{N:Nat}{e:Nat->Value}{ds:List Deferred}{Q:Exit->Act->World->Prop}{M:Nat}{enc:Nat->List Value}{bs:List Nat}{Kq:World->Prop}{gf:Nat}{lb:List Value}{g:Operand}{ps:List Nat}{assign body:Code}(hg:ev N e g=.func (.func gf) #[] lb.toArray)(eg:Enters P gf)(hit:IterN P gf lb enc bs Kq M w)(hKq:Stab w.heap.size Kq)(hps:∀i,(enc i).length=ps.length)(I:Nat->World->Prop)(hI:∀k,Stab w.heap.size (I k))(h0:I 0 w)(hq0:Kq w)(A:(Nat->Value)->Nat->(Nat->Value)->World->Prop)(hA:∀k e' W b r r',w.heap.size<=b->W.heap[b]?=some (.loop r)->A e k e' W->A e k e' (W.putObj b (.loop r')))(hassign:∀l k W K,k<M->I k W->(∀e' W',Ext W W'->A e k e' W'->K (act N e' []) W')->assign.wpIn (Fw (some l)) 7 P (Exit.then K (λ_ _ _=>False)) (act N (updL e ps (enc k)) []) W)(hbody:∀l k e' W,k<M->Kq W->A e k e' W->body.wpIn (Fw (some l)) 7 P (rndN bs Kq I (k+1) W) (act N e' []) W)(hstop:∀D W,w.heap.size<=D->I M W->Dfr W D->Q .normal (act N e (⟨.collected D,#[]⟩::ds)) W):
    (Code.rangeFunc g ps.toArray assign body).wpIn (Fw none) 9 P Q (act N e ds) w:=by
  refine wpIn_rangeFunc (F:=Fence.wide) (n:=9) λfn hfn=>?_
  obtain⟨R,hR⟩:∃R:LoopState->Option Code->Loop,R=λst pe=>{state:=st,pending:=pe,fn,tmps:=(act N e ds).tmps,params:=ps.toArray,assign,body,defers:=w.heap.size}:=⟨_,rfl⟩
  obtain⟨V,hV⟩:∃V,(w.alloc (.deferred (some []))).alloc (.loop (R .ready none))=V:=⟨_,rfl⟩
  have hB:BkM V w.heap.size (R .ready none):=by
    refine⟨?_,?_⟩ <;>rw[<-hV]
    · have h:=World.alloc_heap_new (w.alloc (.deferred (some []))) (.loop (R .ready none));rwa [World.size_alloc]at h
    · exact(Below.heap_alloc _ _ _ (by simp)).trans (World.alloc_heap_new w _)
  have hsz:w.heap.size+1<V.heap.size:=by rw[<-hV];simp
  have hbl:Below w.heap.size w V:=by rw[<-hV];exact((Below.refl _ w).alloc (Nat.le_refl _) _).alloc (by simp) _
  have hI0:I 0 V:=(hI 0).ext hbl h0
  refine⟨w.heap.size+1,[⟨.collected w.heap.size,#[]⟩],V,⟨.fn (.func gf) lb.toArray,#[.func (.yield (w.heap.size+1)) #[] #[]]⟩,V,gf,#[.func (.yield (w.heap.size+1)) #[] #[]]++lb.toArray,V,?_,?_,?_,?_,λ_=>by omega,?_⟩
  · rw[<-hV,hR];exact run_enterLoop_outer _ _ _ _ _
  · have hg':(act N e ds).eval g=.func (.func gf) #[] lb.toArray:=by rw[act_eval];exact hg
    simp only[resolve,hg'];simp[go_sem]
  · intro f' _;trivial
  · simp[invoke,go_sem];exact eg _ _
  refine(hit (w.heap.size+1) (λk W=>I k W∧BkM W w.heap.size (R .ready none)) V hbl
    (λk=>((hI k).mono (by omega)).and (BkM.stab hsz)) ?_ ⟨hI0,hB⟩ (hKq.ext hbl hq0)).mono ?_
  ·
    rintro k W hkM ⟨hi,hk⟩ hq
    have hy:=run_yield (P:=P) (args:=(enc k).toArray) hk.1 (by rw[hR];simpa using hps k)
    rw[hR]at hy
    refine⟨fn,_,assign,body,hy,roundIn_of_wpIn hfn ?_⟩
    have hfold:(⟨(ps.toArray.zip (enc k).toArray).foldl (λt (p,v)=>t.setIfInBounds p v) (act N e ds).tmps,[]⟩:Act)=act N (updL e ps (enc k)) []:=by
      have h:=act_fold N ps (enc k) e
      have h2:act N (updL e ps (enc k)) []=⟨(act N (updL e ps (enc k)) []).tmps,[]⟩:=rfl
      rw[h2,<-h]
      simp only[List.zip_toArray,List.foldl_toArray]
      rfl
    rw[hfold]
    refine hassign (w.heap.size+1) k W _ hkM hi λe' W' hx ha=>?_
    have hk:BkM W' w.heap.size (R .ready none):=⟨hx.heap hk.1,hx.heap hk.2⟩
    refine⟨_,run_beginRound hk.1 (by rw[hR]),?_⟩
    have hk2:=hk.put {R .ready none with state:=.busy}
    refine wpIn_mono (hbody (w.heap.size+1) k e' _ hkM (hKq.put (put_putObj _ _ _) (by omega) (hKq.ext hx hq)) (hA k e' _ _ _ _ (by omega) hk.1 ha)) ?_
    have hkx:KpC bs W W':=⟨hx.size,λ_ h=>h.ext hx⟩
    have fin:∀(j:Option Code) (W3:World),KeepL (W'.putObj (w.heap.size+1) (.loop {R .ready none with state:=.busy})) W3->
        BkM W3 w.heap.size {R .ready none with state:=.busy}∧(Instr.endRound (w.heap.size+1) j).run P W3=.ok (.bool j.isNone) (W3.putObj (w.heap.size+1) (.loop (R (if j.isNone then .ready else .done) j))):=λj W3 h3=>by
      have h4:=hk2.keptL h3
      refine⟨h4,?_⟩
      have h5:=run_endRound (P:=P) j h4.1
      rw[hR]at h5 ⊢
      exact h5
    rintro x a3 W3 hp
    cases x with
    | normal=>
      obtain⟨h1,h1',h2,h3⟩:=hp
      obtain⟨h4,h5⟩:=fin none W3 h1
      exact⟨_,_,h5,rfl,⟨(hI _).put (put_putObj _ _ _) (by omega) h3,h4.put _⟩,hkx.trans (((KpC.putObj hk.1).trans h1').trans (KpC.putObj h4.1)),hKq.put (put_putObj _ _ _) (by omega) h2⟩
    |ret=>exact hp.elim
    |exit id=>exact hp.elim
    |goto t=>exact hp.elim
    |panic c=>exact hp.elim
    |outgrown=>exact hp.elim
  · rintro x W2 ⟨⟨v,rfl⟩,hi,hk⟩
    have h:=run_endLoop (P:=P) hk.1 (by rw[hR];simp)
    rw[hR]at h
    exact⟨none,_,h,hstop _ _ (Nat.le_refl _) ((hI M).put (put_putObj _ _ _) (by omega) hi) (hk.put _).2⟩
end Go.Proofs.YtmehbpjpbbhohaaGreatDoor
namespace Go.Proofs.YtmehbpjpbbhohaaGreatDoor
set_option maxRecDepth 100000
open Go Go.Eng Go.RowKit
attribute [local irreducible] wpListIn Code.wpIn Oper.wpIn Exit.then Exit.inBlock Exit.noGoto
set_option maxHeartbeats 40000000
theorem KpC.refl {bs:List Nat}(W:World):KpC bs W W:=⟨Nat.le_refl _,λ_ h=>h⟩
theorem KpC.ofExt {bs:List Nat}{W W':World}(k:Ext W W'):KpC bs W W':=⟨bz k,λ_ h=>h.ext k⟩
theorem Stab.tb {n:Nat}{w:World}(h:Tb w)(hn:w.heap.size<=n):Stab n Tb:=⟨λk x=>x.ext k,λk hb x=>h.low k (Nat.le_trans hn hb) x⟩
def SeqC (n:Int)(ts:Array Value)(W:World)(b1 b2 bT:Nat):Prop:=Blk W b1 3 #[.int .i64 n]∧Blk W b2 84 #[.func (.func 130) #[] #[pT b1,pT bT]]∧Blk W bT 27 ts
section
variable {r:Option Nat}{n N:Nat}{e:Nat->Value}{ds:List Deferred}{w:World}{Q:Exit->Act->World->Prop}{K:Act->World->Prop}{d ty:Nat}{pos:String}{af:Array Edge}{g:Option (Nat×Bool)}{x:Operand}
theorem k_cVx {R:Value->World->Prop}{f:FuncId}{lb:List Value}{xs:Array Operand}{ats:Array TypeId}{vs:List Value}(hf:Enters Tryz.prog f)(hx:ev N e x=.func (.func f) #[] lb.toArray)(hv:xs.toList.map (ev N e)=vs)(hc:CL f (vs++lb).toArray w (Ret w R))(hk:∀v w',Ext w w'->R v w'->K (act N (upd e d v) ds) w'):Oper.wpIn (Fw r) n Tryz.prog ⟨some d,.call {callee:=.value x,args:=xs,argTypes:=ats},ty,pos,af,g⟩ (act N e ds) w K Q:=k_callV hf hx hv hc hk
end
theorem cells_ok {ma mb sa sb ea eb la lb ha hb oa ob ga gb n:Int}{w:World}:
    CL 81 #[.agg (t7 ma mb sa sb ea eb la lb ha hb oa ob ga gb),.int .i64 n] w (Ret w λv w'=>∃b1 b2 bT,v=.func (.func 131) #[] #[pT b1,pT b2]∧SeqC n (t7 ma mb sa sb ea eb la lb ha hb oa ob ga gb) w' b1 b2 bT∧(w.heap.size<=b1∧w.heap.size<=b2∧w.heap.size<=bT)):=by
 refine f_in Tryz.func81 rfl ?_;refine go ?_;refine bx (λaol aor r8=>?_);have sc:=aor.2;refine bx (λaon aoq aom=>?_);have⟨r8,sc⟩:=be1 aoq.2 r8 sc;refine l_op (k_assign (v:=.nilFunc) rfl ?_);refine go ?_;refine l_op (k_makeFunc (vf:=[]) (vc:=[pT aol.heap.size,pT w.heap.size]) rfl rfl ?_);refine al inf2146 (λ_ aop aos=>?_);have⟨r8,aom,sc⟩:=be2 aop.2 r8 aom sc;refine SO aos (λ_ aoo aot=>?_) (hi:=sz2146);have⟨r8,aom,sc,_⟩:=pl2 aoo r8 aom sc;refine go ?_;refine l_op (k_makeFunc (vf:=[]) (vc:=[pT aol.heap.size,pT aon.heap.size]) rfl rfl ?_);refine go ?_;exact f_ret1 (t:=4) (v:=.func (.func 131) #[] #[pT aol.heap.size,pT aon.heap.size]) rfl sc ⟨_,_,_,rfl,⟨aom,aot,r8⟩,by omega⟩ rfl
theorem cells_iter {ma mb sa sb ea eb la lb ha hb oa ob ga gb zb:Int}{za:Nat->Int}{n b1 b2 bT:Nat}{bs:List Nat}{w:World}(hS:SeqC (n:Int) (t7 ma mb sa sb ea eb la lb ha hb oa ob ga gb) w b1 b2 bT)(hbs:∀b∈bs,w.heap.size<=b∨(b≠b1∧b≠b2∧b≠bT))(hn64:n<=1000)(hn:∀k,k<=n->∀W,Blk W b1 3 #[.int .i64 n]->Blk W bT 27 (t7 ma mb sa sb ea eb la lb ha hb oa ob ga gb)->Tb W->CL 130 #[.int .i64 k,pT b1,pT bT] W (Ret W λv _=>v=QV (za k) zb)):
    IterN Tryz.prog 131 [pT b1,pT b2] (λk=>[IV (za k) zb (za (k+1)) zb]) bs Tb n w:=by
 intro l J Wa hW hJ0 hY h0 ht;obtain⟨h1,h2,h3⟩:=hS;have l1:=bt h1;have l2:=bt h2;have l3:=bt h3;have⟨h1,h2,h3⟩:=bf3 hW h1 h2 h3;have E:KpC bs Wa Wa:=KpC.refl Wa;refine iter_args ?_;have zW:=bz hW;refine f_inI Tryz.func131 rfl ?_;refine go ?_;refine c_lp [(4,4),(6,20)] (λkk e W=>∃k:Nat,(n-k=kk)∧(e 6=.int .i64 k)∧(k<=n)∧(KpC bs Wa W)∧(Blk W b1 3 #[.int .i64 n])∧(Blk W b2 84 #[.func (.func 130) #[] #[pT b1,pT bT]])∧(Blk W bT 27 (t7 ma mb sa sb ea eb la lb ha hb oa ob ga gb))∧(Tb W)∧(J k W)) (n-0) ⟨0,rfl,rfl,(Nat.zero_le _),E,h1,h2,h3,ht,h0⟩ ?_;rintro _ _ aot ⟨k,rfl,aop,hk0,sc,h1,h2,h3,ht,q1⟩;have ap9:=KpC.size sc;by_cases h0k:k<n;have hk1:k<n:=h0k;refine go ?_;have aou:=Ext.refl aot;refine c_dv hmix 9 [9,10,11,12,13,14,15,16,17] [some (9,.func (.yield l) #[] #[]),some (10,.func (.func 130) #[] #[pT b1,pT bT]),some (11,.int .i64 k),some (12,QV (za k) zb),some (13,.func (.func 130) #[] #[pT b1,pT bT]),some (14,.int .i64 k),some (15,.int .i64 (((k+1:Nat):Int))),some (16,QV (za ((k+1))) zb),some (17,IV (za k) zb (za ((k+1))) zb)] (XE aot) (Ext.drew aot) (by kernel_rfl) (by kernel_rfl) (by kernel_rfl) ?_ ?_;refine⟨λaqa _ _ apd _ ape _ _ _=>?_,?_⟩;obtain⟨aqa,rfl⟩:=ovE apd;refine go ?_;exact dvE rfl ape (Ext.refl _);refine⟨λaqh _ _ apf _ ao2 _ _ _=>?_,?_⟩;obtain⟨aqh,rfl⟩:=ovE apf;have apg:=(be ao2 h2)
 refine go ?_;exact dvE rfl ao2 (Ext.refl _);refine⟨λaqo _ _ aph _ api _ _ _=>?_,?_⟩;obtain⟨aqo,rfl⟩:=ovE aph;refine go ?_;exact dvE rfl api (Ext.refl _);refine⟨λao3 _ _ aqx ao4 aol _ _ _=>?_,?_⟩;obtain⟨ao3,rfl⟩:=ovE aqx;have apj:=zpv (ao4 1 _ _ rfl rfl);have apk:=zpv (ao4 2 _ _ rfl rfl);have aov:=(Tb.ext aol ht);have aow:=(be aol h1);have aox:=(be aol h3);refine l_op (k_cVx (vs:=[.int .i64 k]) (lb:=[pT b1,pT bT]) en3130 apj (cons_eq apk rfl) (hn k om _ aow aox aov) ?_);rintro _ _ aom rfl;refine go ?_;exact dvE rfl aol aom;refine⟨λaq3 _ _ apl _ ao6 _ _ _=>?_,?_⟩;obtain⟨aq3,rfl⟩:=ovE apl;have apm:=(be ao6 h2);refine go ?_;exact dvE rfl ao6 (Ext.refl _);refine⟨λara _ _ apn _ apo _ _ _=>?_,?_⟩;obtain⟨ara,rfl⟩:=ovE apn;refine go ?_;exact dvE rfl apo (Ext.refl _);refine⟨λapq _ _ arl apr aps _ _ _=>?_,?_⟩;obtain⟨apq,rfl⟩:=ovE arl;have apt:=zpv (apr 5 _ _ rfl rfl);refine l_op (k_add (a:=(k:Int)) (b:=1) (c:=((k+1:Nat):Int)) apt rfl (by unfold In64;omega) om ?_);refine go ?_;exact dvE rfl aps (Ext.refl _);refine⟨λao7 _ _ arr ao8 aon _ _ _=>?_,?_⟩;obtain⟨ao7,rfl⟩:=ovE arr;have apu:=zpv (ao8 4 _ _ rfl rfl);have apv:=zpv (ao8 6 _ _ rfl rfl);have aoy:=(Tb.ext aon ht);have aoz:=(be aon h1);have ao0:=(be aon h3)
 refine l_op (k_cVx (vs:=[.int .i64 (((k+1:Nat):Int))]) (lb:=[pT b1,pT bT]) en3130 apu (cons_eq apv rfl) (hn (k+1) om _ aoz ao0 aoy) ?_);rintro _ _ aoo rfl;refine go ?_;exact dvE rfl aon aoo;refine⟨λapa _ _ arz apb apw _ _ _=>?_,?_⟩;obtain⟨apa,rfl⟩:=ovE arz;have apx:=zpv (apb 3 _ _ rfl rfl);have apy:=zpv (apb 7 _ _ rfl rfl);refine l_op (k_build (vs:=[(0,QV (za k) zb),(1,QV (za ((k+1))) zb)]) (cells:=#[S ((qR (za k) zb).1),S ((qR (za k) zb).2),S ((qR (za ((k+1))) zb).1),S ((qR (za ((k+1))) zb).2)]) (pl:=[(0,2),(2,2)]) U1032 inf1032 (by kernel_rfl) (cons_eqp apx (cons_eqp apy rfl)) (by kernel_rfl) ?_);refine go ?_;exact dvE rfl apw (Ext.refl _);exact trivial;intro ao1 apz _ _ ap0 apc r8;obtain⟨ao1,rfl⟩:=ovE ap0;have aoq:=(be r8 h1);have ar5:=bt aoq;have aor:=(be r8 h2);have ar6:=bt aor;have aos:=(be r8 h3);have ar7:=bt aos;have ap1:=(Tb.ext r8 ht);have ap2:=((hJ0 _).ext r8 q1);have ap3:=xt aou r8;have ar8:=bz ap3;have sc:=KpC.trans sc (KpC.ofExt r8);have ar9:=bz r8;have ap4:=zpv (apc 0 _ _ rfl rfl);have ap5:=zpv (apc 8 _ _ rfl rfl);refine l_op (k_yield (l:=l) (vs:=[IV (za k) zb (za (k+1)) zb]) ap4 (cons_eq ap5 rfl) (hY k apz hk1 ap2 ap1) ?_);rintro _ _ ⟨rfl,hJ,hC,hq⟩;have aoq:=hC.blk (λh=>by have:=hbs _ h;omega) aoq;have aor:=hC.blk (λh=>by have:=hbs _ h;omega) aor;have aos:=hC.blk (λh=>by have:=hbs _ h;omega) aos
 have sc:=KpC.trans sc hC;have zC:=hC.size;refine go ?_;refine l_op (k_add (a:=(k:Int)) (b:=1) (c:=((k+1:Nat):Int)) aop rfl (by unfold In64;omega) om ?_);refine go ?_;exact lend ⟨k+1,rfl,rfl,om,sc,aoq,aor,aos,hq,hJ⟩;obtain rfl:k=n:=by omega
 refine go ?_;exact f_end0I rfl λv=>⟨⟨v,rfl⟩,q1⟩
theorem krRja {p:Prop}(h:p:=by kernel_rfl):p:=h
theorem erRja {w:World}:Ext w w:=Ext.refl _
theorem t_retSM {fn:Func}{N g b1 b2 D:Nat}{e:Nat->Value}{w w':World}{R:Value->World->Prop}{v:Value}(hK:Dfr w' D)(hg:Enters Tryz.prog g)(hc:RetsN g b1 b2)(hx:Ext w w')(hD:w.heap.size<=D)(hr:(results fn (act N e [⟨.collected D,#[]⟩,dfS g b1 b2]).tmps).run Tryz.prog (w'.putObj D (.deferred none))=.ok v (w'.putObj D (.deferred none)))(hR:R v (w'.putObj D (.deferred none))):
    bodyPostM Fence.wide 9 Tryz.prog fn (Ret w R) .ret (act N e [⟨.collected D,#[]⟩,dfS g b1 b2]) w':=by
  refine⟨by simp,.inl ⟨D,_,rfl,run_takeDeferred hK,by simp,.inr ⟨by simp[Fence.wide],.func g,#[],g,#[pT b1,pT b2],rfl,?_,λ_ _=>trivial,?_⟩⟩⟩
  · have h:=hg #[pT b1,pT b2] (w'.putObj D (.deferred none))
    simpa[invoke]using h
  · refine CallsDIn.mono (hc _ _) ?_
    rintro _ _ _ ⟨⟨v',rfl⟩,rfl,rfl⟩
    exact⟨v,hr,(put_dfr w').low hx hD,hR⟩
theorem KpK.ext {bs:List Nat}{W A B:World}(k:Ext A B)(h:Keeps bs W A):Keeps bs W B:=h.ext k
theorem KpK.put {bs:List Nat}{W A B:World}{b:Nat}(k:Put A B b)(hb:b∈bs∨W.heap.size<=b)(h:Keeps bs W A):Keeps bs W B:=h.put k hb
theorem KpK.gr {bs:List Nat}{W A B:World}{row:Option Nat}(k:A.grownBy B row)(hb:∀b,row=some b->b∈bs∨W.heap.size<=b)(h:Keeps bs W A):Keeps bs W B:=h.gr k hb
theorem NotLD.map {W:World}{b:Nat}{F:R->Value}(h:Mpb W b F):NotLD W b:=by
  obtain⟨_,c,h,_⟩:=h
  exact⟨λr e=>(by rw[h]at e;cases e),λd e=>(by rw[h]at e;cases e)⟩
set_option maxRecDepth 100000 in
theorem total_ok {ma mb sa sb ea eb la lb ha hb oa ob ga gb zb f1 c1 f2 c2 ra rb ua ub:Int}{n m pl gp gc:Nat}{za:Nat->Int}{xl xh mk mu bk bu ck cu SL SH:Nat->Nat->Int}{ne:Nat->Nat->Bool}{pA:Nat->Array Value}{w:World}(h1:1<=pl)(h12:pl<=12)(hn1:1<=n)(hn64:n<=64)(hm:m<=2)(hVa:∀W,Tb W->CL 16 #[.agg (t7 ma mb sa sb ea eb la lb ha hb oa ob ga gb)] W (Ret W λv _=>v=.bool true))(m1:Sz (-6) 1)(m2:Sz 6 1)(x1:Sh pl (-6) 1 f1 c1)(x2:Sh pl 6 1 f2 c2)(qc1:Q9 c1 (tenI pl))(qf2:Q9 f2 (tenI pl))(qA:Q9 (1*tenI pl-f2*1) (1*tenI pl))(hrest:Value.tuple #[QV (c1*(1*tenI pl)+(1*tenI pl-f2*1)*tenI pl) (tenI pl*(1*tenI pl)),.int .i64 0]=.tuple #[QV (SH 0 0) (tenI pl*tenI pl),.int .i64 0])(h00:qR 0 1=qR (SL 0 0) (tenI pl*tenI pl))(hEn:∀k,k<=n->∀W b1 bT,Blk W b1 3 #[.int .i64 n]->Blk W bT 27 (t7 ma mb sa sb ea eb la lb ha hb oa ob ga gb)->Tb W->CL 130 #[.int .i64 k,pT b1,pT bT] W (Ret W λv _=>v=QV (za k) zb))(egp:Enters Tryz.prog gp)(egc:Enters Tryz.prog gc)(hPt:∀k,k<n->∀W,Tb W->CL gp #[.agg (t7 ma mb sa sb ea eb la lb ha hb oa ob ga gb),IV (za k) zb (za (k+1)) zb] W (Ret W λv W'=>∃c,v=.slice (some ⟨c,0,none⟩) m m∧Blk W' c 33 (pA k)∧W.heap.size<=c))(hPc:∀k j,k<n->j<m->∀{c:Nat} {W:World},Blk W c 33 (pA k)->∀i u,([S ((qR (xl k j) zb).1),S ((qR (xl k j) zb).2),S ((qR (xh k j) zb).1),S ((qR (xh k j) zb).2)]:List Value)[i]? =some u->W.cell? ⟨c,0+j*4+i,none⟩=some u)(hLs:∀k j W,Tb W->CL 45 #[QV (xl k j) zb,QV (xh k j) zb] W (Ret W λv W'=>v=.bool (ne k j)))(hMs:∀k j,k<n->j<m->ne k j=true->∀W n0 b bm bp bn bf,TabW W n0 b bm bp bn bf pl->n0<=W.heap.size->CL 38 #[TabV pl bn bf,IV (xl k j) zb (xh k j) zb,QV ma mb,QV sa sb] W (RetA λv W'=>W.grownBy W' (some b)∧TabW W' n0 b bm bp bn bf pl∧v=IV (mk k j) (tenI pl) (mu k j) (tenI pl)))(hBn:∀k j,k<n->j<m->ne k j=true->∀W n0 b bm bp bn bf,TabW W n0 b bm bp bn bf pl->n0<=W.heap.size->CL 83 #[TabV pl bn bf,.agg (t7 ma mb sa sb ea eb la lb ha hb oa ob ga gb),IV (xl k j) zb (xh k j) zb] W (RetA λv W'=>W.grownBy W' (some b)∧TabW W' n0 b bm bp bn bf pl∧v=IV (bk k j) (tenI pl) (bu k j) (tenI pl)))(hCh:∀k j W,Tb W->CL gc #[IV (bk k j) (tenI pl) (bu k j) (tenI pl)] W (Ret W λv W'=>v=IV (ck k j) (tenI pl) (cu k j) (tenI pl)))(hMu:∀k j,k<n->j<m->ne k j=true->∀W,Tb W->CL 82 #[IV (mk k j) (tenI pl) (mu k j) (tenI pl),IV (ck k j) (tenI pl) (cu k j) (tenI pl)] W (Ret W λv W'=>v=.tuple #[IV (mk k j*ck k j) (tenI pl*tenI pl) (mu k j*cu k j) (tenI pl*tenI pl),.int .i64 0]))(hAd:∀k j,k<n->j<m->ne k j=true->∀W,Tb W->CL 23 #[IV (SL k j) (tenI pl*tenI pl) (SH k j) (tenI pl*tenI pl),IV (mk k j*ck k j) (tenI pl*tenI pl) (mu k j*cu k j) (tenI pl*tenI pl)] W (Ret W λv W'=>v=.tuple #[IV (SL k (j+1)) (tenI pl*tenI pl) (SH k (j+1)) (tenI pl*tenI pl),.int .i64 0]))(hSk:∀k j,ne k j=false->SL k (j+1)=SL k j∧SH k (j+1)=SH k j)(hSe:∀k,SL (k+1) 0=SL k m∧SH (k+1) 0=SH k m)(hRd:∀W,Tb W->CL 84 #[IV (SL n 0) (tenI pl*tenI pl) (SH n 0) (tenI pl*tenI pl),.int .i64 pl] W (Ret W λv W'=>v=.tuple #[IV ra rb ua ub,.int .i64 0]))(ht:Tb w):
    CL 39 #[.agg (t7 ma mb sa sb ea eb la lb ha hb oa ob ga gb),.int .i64 n,.int .i64 pl,.func (.func gp) #[] #[],.func (.func gc) #[] #[]] w (Ret w λv w'=>v=.tuple #[IV ra rb ua ub,.int .i64 0]):=by
 refine f_inM Tryz.func39 rfl ?_;refine go ?_;refine bx (λaqw aus aol=>?_);have r8:=aus.2;refine bx (v:=.func (.func gp) #[] #[]) (hx:=rfl) (λaqx as1 aom=>?_);have⟨aol,r8⟩:=be1 as1.2 aol r8;refine bx (v:=.func (.func gc) #[] #[]) (hx:=rfl) (λaqe ar6 aoo=>?_);have⟨aol,aom,r8⟩:=be2 ar6.2 aol aom r8;refine al inf1032 (λaqf arr aor=>?_);have⟨aol,aom,aoo,r8⟩:=be3 arr.2 aol aom aoo r8;refine al inf32 (λ_ aqy aou=>?_);have⟨aol,aom,aoo,aor,r8⟩:=be4 aqy.2 aol aom aoo aor r8;refine go ?_;refine cl en2099 (riskRight_ok h1 h12) ?_;rintro _ _ aqq rfl;have⟨aol,aom,aoo,aor,aou,r8⟩:=be5 aqq.2 aol aom aoo aor aou r8;refine go ?_;refine l_op (k_loadA (cs:=[S (qR ma mb).1,S (qR ma mb).2,S (qR sa sb).1,S (qR sa sb).2,S (qR ea eb).1,S (qR ea eb).2,S (qR la lb).1,S (qR la lb).2,S (qR ha hb).1,S (qR ha hb).2,S (qR oa ob).1,S (qR oa ob).2,S (qR ga gb).1,S (qR ga gb).2]) (b:=w.heap.size) (o:=0) U2296 rfl sz2296 rfl (Blk.cells aol (i:=0) krRja) ?_);refine go ?_;refine cl en3016 ((hVa _ (ht.ext r8))) ?_;rintro _ _ aqr rfl;have⟨aol,aom,aoo,aor,aou,r8⟩:=be5 aqr.2 aol aom aoo aor aou r8;refine go ?_;refine l_op (k_deferS rfl rfl ?_);refine go ?_;refine cl en2103 (tabO_ok (ht.ext r8)) ?_;rintro _ ao2 aqs ⟨aqz,apd,aq0,aq1,aop,aoq,rfl,sc,ayf,ayg⟩;have⟨aol,aom,aoo,aor,aou,r8⟩:=be5 aqs.2 aol aom aoo aor aou r8;have zlt:=sc.lt;refine al inf2141 (λ_ aqg aut=>?_)
 have⟨aol,aom,aoo,aor,aou⟩:=bf5 aqg.2 aol aom aoo aor aou;have sc:=TabW.ext aqg.2 sc;have r8:=xt r8 aqg.2;refine l_op (k_storeA (b:=ao2.heap.size) (o:=0) (vs:=[.int .i64 pl,.func (.func 76) #[] #[pT aop,pT aoq]]) sz2141 rfl rfl (by simp[Value.oneCell',S]) aut (Nat.le_of_ble_eq_true rfl) (λaq2 aqa apa=>?_));have⟨aol,aom,aoo,aor,aou⟩:=pf5 aqa aol aom aoo aor aou;have sc:=TabW.put aqa om sc;have r8:=plw aqa r8;have ayi:=psz aqa;refine go ?_
 refine c_dv hmix 20 [13,38,39,40,41,42,43,44,45,46,47,48,49,50,51,52,53,54,55,56] [some (38,.pointer (some ⟨ao2.heap.size,1,none⟩)),some (39,.func (.func 76) #[] #[pT aop,pT aoq]),some (40,QV (-6) 1),some (41,IV f1 (tenI pl) c1 (tenI pl)),some (42,QV c1 (tenI pl)),some (43,QV 1 1),some (44,.pointer (some ⟨ao2.heap.size,1,none⟩)),some (45,.func (.func 76) #[] #[pT aop,pT aoq]),some (46,QV 6 1),some (47,IV f2 (tenI pl) c2 (tenI pl)),some (48,QV f2 (tenI pl)),some (49,.tuple #[QV (1*tenI pl-f2*1) (1*tenI pl),.int .i64 0]),some (50,QV (1*tenI pl-f2*1) (1*tenI pl)),some (51,.int .i64 0),some (52,QV (1*tenI pl-f2*1) (1*tenI pl)),some (53,.tuple #[QV (SH 0 0) (tenI pl*tenI pl),.int .i64 0]),some (54,QV (SH 0 0) (tenI pl*tenI pl)),some (55,.int .i64 0),some (56,QV (SH 0 0) (tenI pl*tenI pl)),none] (XH (λW=>aq2.grownBy W (some apd)∧TabW W aqz apd aq0 aq1 aop aoq pl) aq2.heap.size 19 13 25 #[S ([]),S ([])]) (XH.start ⟨gb_ext (World.grownBy.refl aq2 _) (Ext.drew aq2),TabW.ext (Ext.drew aq2) sc⟩) krRja krRja krRja ?_ ?_;refine⟨λayj _ _ auu _ as2 _ _ _=>?_,?_⟩;obtain⟨ayj,rfl⟩:=ovE auu;refine l_op (k_fieldAddr (b:=ao2.heap.size) (o:=0) (off:=1) (oo:=1) U2141 rfl rfl sz1040 rfl rfl ?_);refine go ?_;exact dvHx rfl as2 as2.1 erRja;refine⟨λauv _ _ ays auw ar7 _ _ _=>?_,?_⟩;obtain⟨auv,rfl⟩:=ovE ays
 have aux:=zpv (auw 0 _ _ rfl rfl);have auy:=(Blk.gr ar7.1.1 (by simp;omega) apa);refine go ?_;exact dvHx rfl ar7 ar7.1 erRja;refine⟨λayw _ _ ayz _ aq3 _ _ _=>?_,?_⟩;obtain⟨ayw,rfl⟩:=ovE ayz;have sc:=aq3.1.2;refine clb en2107 (hc:=whole_ok (n:=(-6)) (by unfold In64;decide) (TabW.tb sc)) (hk:=?_);rintro _ _ aq4 rfl;refine go ?_;exact dvHx rfl aq3 ⟨gb_ext aq3.1.1 aq4.2,TabW.ext aq4.2 aq3.1.2⟩ aq4.2;refine⟨λas4 _ _ ay8 as5 apf _ _ _=>?_,?_⟩;obtain⟨as4,rfl⟩:=ovE ay8;have auz:=zpv (as5 1 _ _ rfl rfl);have au0:=zpv (as5 2 _ _ rfl rfl);have aol:=(Blk.gr apf.1.1 (by simp;omega) aol);have aom:=(Blk.gr apf.1.1 (by simp;omega) aom);have aoo:=(Blk.gr apf.1.1 (by simp;omega) aoo);have aor:=(Blk.gr apf.1.1 (by simp;omega) aor);have aou:=(Blk.gr apf.1.1 (by simp;omega) aou);have apa:=(Blk.gr apf.1.1 (by simp;omega) apa);have sc:=apf.1.2;have au1:=bt aol;have au2:=bt aom;have au3:=bt aoo;have au4:=bt aor;have au5:=bt aou;have au6:=bt apa;have azc:=apf.1.1.size;refine l_op (k_callVA (vs:=[QV (-6) 1]) (lb:=[pT aop,pT aoq]) en2150 auz (cons_eq au0 rfl) (tshare_tw h12 m1 x1 sc) ?_);rintro _ _ ⟨apn,au7,rfl⟩;have azf:=apn.size;refine go ?_;exact dvH rfl apf ⟨gb_trans apf.1.1 apn,au7⟩ apn (λg hgg=>by cases hgg;omega);refine⟨λau8 _ _ azi au9 as6 _ _ _=>?_,?_⟩;obtain⟨au8,rfl⟩:=ovE azi;have ava:=zpv (au9 3 _ _ rfl rfl);refine l_op (k_fieldI1 ava ?_)
 refine go ?_;exact dvHx rfl as6 as6.1 erRja;refine⟨λazm _ _ azp _ aq5 _ _ _=>?_,?_⟩;obtain⟨azm,rfl⟩:=ovE azp;have sc:=aq5.1.2;refine clb en2107 (hc:=whole_ok (n:=1) (by unfold In64;decide) (TabW.tb sc)) (hk:=?_);rintro _ _ aq6 rfl;refine go ?_;exact dvHx rfl aq5 ⟨gb_ext aq5.1.1 aq6.2,TabW.ext aq6.2 aq5.1.2⟩ aq6.2;refine⟨λazw _ _ avb _ as8 _ _ _=>?_,?_⟩;obtain⟨azw,rfl⟩:=ovE avb;refine l_op (k_fieldAddr (b:=ao2.heap.size) (o:=0) (off:=1) (oo:=1) U2141 rfl rfl sz1040 rfl rfl ?_);refine go ?_;exact dvHx rfl as8 as8.1 erRja;refine⟨λavc _ _ az5 avd ar9 _ _ _=>?_,?_⟩;obtain⟨avc,rfl⟩:=ovE az5;have ave:=zpv (avd 6 _ _ rfl rfl);have avf:=(Blk.gr ar9.1.1 (by simp;omega) apa);refine go ?_;exact dvHx rfl ar9 ar9.1 erRja;refine⟨λaz9 _ _ a0c _ aq7 _ _ _=>?_,?_⟩;obtain⟨az9,rfl⟩:=ovE a0c;have sc:=aq7.1.2;refine clb en2107 (hc:=whole_ok (n:=6) (by unfold In64;decide) (TabW.tb sc)) (hk:=?_);rintro _ _ aq8 rfl;refine go ?_;exact dvHx rfl aq7 ⟨gb_ext aq7.1.1 aq8.2,TabW.ext aq8.2 aq7.1.2⟩ aq8.2;refine⟨λata _ _ a0l atb apg _ _ _=>?_,?_⟩;obtain⟨ata,rfl⟩:=ovE a0l;have avg:=zpv (atb 7 _ _ rfl rfl);have avh:=zpv (atb 8 _ _ rfl rfl);have aol:=(Blk.gr apg.1.1 (by simp;omega) aol);have aom:=(Blk.gr apg.1.1 (by simp;omega) aom);have aoo:=(Blk.gr apg.1.1 (by simp;omega) aoo);have aor:=(Blk.gr apg.1.1 (by simp;omega) aor)
 have aou:=(Blk.gr apg.1.1 (by simp;omega) aou);have apa:=(Blk.gr apg.1.1 (by simp;omega) apa);have sc:=apg.1.2;have au1:=bt aol;have au2:=bt aom;have au3:=bt aoo;have au4:=bt aor;have au5:=bt aou;have au6:=bt apa;have a0p:=apg.1.1.size;refine l_op (k_callVA (vs:=[QV 6 1]) (lb:=[pT aop,pT aoq]) en2150 avg (cons_eq avh rfl) (tshare_tw h12 m2 x2 sc) ?_);rintro _ _ ⟨apo,avi,rfl⟩;have a0s:=apo.size;refine go ?_;exact dvH rfl apg ⟨gb_trans apg.1.1 apo,avi⟩ apo (λg hgg=>by cases hgg;omega);refine⟨λavj _ _ a0v avk atc _ _ _=>?_,?_⟩;obtain⟨avj,rfl⟩:=ovE a0v;have avl:=zpv (avk 9 _ _ rfl rfl);refine l_op (k_fieldI0 avl ?_);refine go ?_;exact dvHx rfl atc atc.1 erRja;refine⟨λatd _ _ a01 ate aq9 _ _ _=>?_,?_⟩;obtain⟨atd,rfl⟩:=ovE a01;have avm:=zpv (ate 5 _ _ rfl rfl);have avn:=zpv (ate 10 _ _ rfl rfl);have sc:=aq9.1.2;refine cl en220 (qSubX qone qf2 (TabW.tb sc)) ?_ (cons_eq avm (cons_eq avn rfl));rintro _ _ ara rfl;refine go ?_;exact dvHx rfl aq9 ⟨gb_ext aq9.1.1 ara.2,TabW.ext ara.2 aq9.1.2⟩ ara.2;refine⟨λavo _ _ a09 avp atg _ _ _=>?_,?_⟩;obtain⟨avo,rfl⟩:=ovE a09;have avq:=zpv (avp 11 _ _ rfl rfl);refine go ?_;exact dvHx rfl atg atg.1 erRja;refine⟨λavr _ _ a1f avs ath _ _ _=>?_,?_⟩;obtain⟨avr,rfl⟩:=ovE a1f;have avt:=zpv (avs 11 _ _ rfl rfl);refine go ?_;exact dvHx rfl ath ath.1 erRja
 refine⟨λati _ _ a1l atj arb _ _ _=>?_,?_⟩;obtain⟨ati,rfl⟩:=ovE a1l;have avu:=zpv (atj 12 _ _ rfl rfl);have avv:=zpv (atj 13 _ _ rfl rfl);have sc:=arb.1.2;refine cl en2152 rmust_ok ?_ (cons_eq avu (cons_eq avv rfl));rintro _ _ arc rfl;refine go ?_;exact dvHx rfl arb ⟨gb_ext arb.1.1 arc.2,TabW.ext arc.2 arb.1.2⟩ arc.2;refine⟨λatl _ _ a1t atm ard _ _ _=>?_,?_⟩;obtain⟨atl,rfl⟩:=ovE a1t;have avw:=zpv (atm 4 _ _ rfl rfl);have avx:=zpv (atm 14 _ _ rfl rfl);have sc:=ard.1.2;refine cl en217 (cEq (Y:=.tuple #[QV (SH 0 0) (tenI pl*tenI pl),.int .i64 0]) (qAddX qc1 qA (TabW.tb sc)) hrest) ?_ (cons_eq avw (cons_eq avx rfl));rintro _ _ arf rfl;refine go ?_;exact dvHx rfl ard ⟨gb_ext ard.1.1 arf.2,TabW.ext arf.2 ard.1.2⟩ arf.2;refine⟨λavy _ _ a12 avz ato _ _ _=>?_,?_⟩;obtain⟨avy,rfl⟩:=ovE a12;have av0:=zpv (avz 15 _ _ rfl rfl);refine go ?_;exact dvHx rfl ato ato.1 erRja;refine⟨λav1 _ _ a18 av2 atp _ _ _=>?_,?_⟩;obtain⟨av1,rfl⟩:=ovE a18;have av3:=zpv (av2 15 _ _ rfl rfl);refine go ?_;exact dvHx rfl atp atp.1 erRja;refine⟨λatq _ _ a2e atr arh _ _ _=>?_,?_⟩;obtain⟨atq,rfl⟩:=ovE a2e;have av4:=zpv (atr 16 _ _ rfl rfl);have av5:=zpv (atr 17 _ _ rfl rfl);have sc:=arh.1.2;refine cl en2152 rmust_ok ?_ (cons_eq av4 (cons_eq av5 rfl));rintro _ _ ari rfl;refine go ?_;exact dvHx rfl arh ⟨gb_ext arh.1.1 ari.2,TabW.ext ari.2 arh.1.2⟩ ari.2
 refine⟨λa2k _ _ a2n _ ars _ _ _=>?_,?_⟩;obtain⟨a2k,rfl⟩:=ovE a2n;have asb:=low_gr r8 ars.1.1 (bz r8) (λg hgg=>by cases hgg;omega);have a2s:=bz asb;refine al inf36 (λ_ art av6=>?_);refine go ?_;exact dvHa rfl ars ⟨gb_ext ars.1.1 art.2,TabW.ext art.2 ars.1.2⟩ art.2 av6;exact trivial;intro atu _ _ av7 aqb av8 apq;obtain⟨atu,rfl⟩:=ovE aqb;have aru:=(Blk.gr apq.1.1 (by simp;omega) aol);have a2w:=bt aru;have arv:=(Blk.gr apq.1.1 (by simp;omega) aom);have a2x:=bt arv;have arw:=(Blk.gr apq.1.1 (by simp;omega) aoo);have a2y:=bt arw;have arx:=(Blk.gr apq.1.1 (by simp;omega) aor);have a2z:=bt arx;have ary:=(Blk.gr apq.1.1 (by simp;omega) aou);have a22:=bt ary;have asc:=apq.1.2;have arz:=(Blk.gr apq.1.1 (by simp;omega) apa);have a23:=bt arz;have a24:=apq.1.1.size;have aqt:=low_gr r8 apq.1.1 (bz r8) (λg hgg=>by cases hgg;omega);have a25:=bz aqt;obtain⟨aqu,asd,_,atv⟩:=apq.2.2 (av7 19 rfl);have asd:=zpv asd;have a27:=bt atv;have atw:atu 13=pT aqu:=(asd);have av9:=zpv (av8 18 _ _ rfl rfl);refine SA atv (λawa ap5 atx=>?_);have⟨aru,arv,arw,arx,ary⟩:=pf5 ap5 aru arv arw arx ary;have asc:=TabW.put ap5 om asc;have⟨arz,aqt,_⟩:=pl1 ap5 arz aqt;refine go ?_
 refine c_dv hmix 4 [14,57,58,59] [some (57,QV (SL 0 0) (tenI pl*tenI pl)),some (58,QV (SH 0 0) (tenI pl*tenI pl)),some (59,IV (SL 0 0) (tenI pl*tenI pl) (SH 0 0) (tenI pl*tenI pl)),none] (XA awa 3 999 14 33 #[S ([]),S ([]),S ([]),S ([])] #[S ([]),S ([]),S ([]),S ([])]) XA.start krRja krRja krRja ?_ ?_;refine⟨λa29 _ _ a3c _ aty _ _ _=>?_,?_⟩;obtain⟨a29,rfl⟩:=ovE a3c;have ase:=xt aqt aty.1;refine clb en2107 (hc:=cEq (Y:=QV (SL 0 0) (tenI pl*tenI pl)) (whole_ok (n:=0) (by unfold In64;decide) (ht.ext ase)) (congrArg (λr:R=>Value.agg #[S r.1,S r.2]) h00)) (hk:=?_);rintro _ _ atz rfl;refine go ?_;exact dvA rfl aty atz.2;refine⟨λa3j _ _ awb _ at0 _ _ _=>?_,?_⟩;obtain⟨a3j,rfl⟩:=ovE awb;have awc:=(be at0.1 atx);refine go ?_;exact dvA rfl at0 erRja;refine⟨λat1 _ _ a3s at2 awd _ _ _=>?_,?_⟩;obtain⟨at1,rfl⟩:=ovE a3s;have awe:=zpv (at2 0 _ _ rfl rfl);have awf:=zpv (at2 1 _ _ rfl rfl);refine l_op (k_build (vs:=[(0,QV (SL 0 0) (tenI pl*tenI pl)),(1,QV (SH 0 0) (tenI pl*tenI pl))]) (cells:=#[S ((qR (SL 0 0) (tenI pl*tenI pl)).1),S ((qR (SL 0 0) (tenI pl*tenI pl)).2),S ((qR (SH 0 0) (tenI pl*tenI pl)).1),S ((qR (SH 0 0) (tenI pl*tenI pl)).2)]) (pl:=[(0,2),(2,2)]) U1032 inf1032 krRja (cons_eqp awe (cons_eqp awf rfl)) krRja ?_);refine go ?_;exact dvA rfl awd erRja
 refine⟨λa3w _ _ a3z _ at3 _ _ _=>?_,?_⟩;obtain⟨a3w,rfl⟩:=ovE a3z;have asf:=xt aqt at3.1;have a34:=bz asf;refine al inf1032 (λ_ at4 awg=>?_);refine go ?_;exact dvAn rfl at3 at4.2 awg;exact trivial;intro apr _ _ awh aqc awi aph;obtain⟨apr,rfl⟩:=ovE aqc;have aqd:=(be aph.1 aru);have a39:=bt aqd;have aqh:=(be aph.1 arv);have a4a:=bt aqh;have aqi:=(be aph.1 arw);have a4b:=bt aqi;have aqj:=(be aph.1 arx);have a4c:=bt aqj;have aqk:=(be aph.1 ary);have a4d:=bt aqk;have aqv:=(TabW.ext aph.1 asc);have aql:=(be aph.1 arz);have a4e:=bt aql;have aqm:=(be aph.1 atx);have a4f:=bt aqm;have aqn:=xt aqt aph.1;have a4g:=bz aqn;have a4h:=bz aph.1;obtain⟨ao7,asg,_,at6⟩:=XA.fin aph (awh 3 rfl) (.inr rfl);have asg:=zpv asg;have a4j:=bt at6;have ash:apr 14=pT ao7:=(asg);have awj:=zpv (awi 2 _ _ rfl rfl);refine SA at6 (λ_ aps ar0=>?_);have⟨aqd,aqh,aqi,aqj,aqk⟩:=pf5 aps aqd aqh aqi aqj aqk;have aqv:=TabW.put aps om aqv;have⟨aql,aqm,aqn,_⟩:=pl2 aps aql aqm aqn;refine go ?_;refine l_op (k_loadA (cs:=[S (qR ma mb).1,S (qR ma mb).2,S (qR sa sb).1,S (qR sa sb).2,S (qR ea eb).1,S (qR ea eb).2,S (qR la lb).1,S (qR la lb).2,S (qR ha hb).1,S (qR ha hb).2,S (qR oa ob).1,S (qR oa ob).2,S (qR ga gb).1,S (qR ga gb).2]) (b:=w.heap.size) (o:=0) U2296 rfl sz2296 rfl (Blk.cells aqd (i:=0) krRja) ?_);refine go ?_;refine cl en3081 cells_ok ?_
 rintro _ asi apt ⟨awl,awm,a4n,rfl,awn,a4o⟩;have⟨aqd,aqh,aqi,aqj,aqk⟩:=bf5 apt.2 aqd aqh aqi aqj aqk;have aqv:=TabW.ext apt.2 aqv;have⟨aql,aqm,ar0,aqn⟩:=be3 apt.2 aql aqm ar0 aqn;refine go ?_;have a4p:=bt aqd;have a4q:=bt aqh;have a4r:=bt aqi;have a4s:=bt aqj;have a4t:=bt aqk;have a4u:=bt aql;have a4v:=bt aqm;have a4w:=bt ar0;have hTb:=aqv.tb
 refine c_rangeN (M:=n) (enc:=λk=>[IV (za k) zb (za (k+1)) zb]) (bs:=[ao7,apd]) (Kq:=Tb) (gf:=131) (lb:=[pT awl,pT awm]) (ps:=[63]) rfl en3131 (cells_iter (za:=za) (zb:=zb) awn ?hbs om (λk hk W hb1 hbT hW=>hEn k hk W _ _ hb1 hbT hW)) (Stab.tb hTb (Nat.le_refl _)) (λ_=>rfl) (λk W=>k<=n∧asi.heap.size<=W.heap.size∧Ext w W∧(Blk W (w.heap.size) 27 (t7 ma mb sa sb ea eb la lb ha hb oa ob ga gb))∧(Blk W (aqw.heap.size) 65 #[.func (.func gp) #[] #[]])∧(Blk W (aqx.heap.size) 66 #[.func (.func gc) #[] #[]])∧(Blk W (aqe.heap.size) 33 #[S ([]),S ([]),S ([]),S ([])])∧(Blk W (aqf.heap.size) 34 #[.int .i64 0])∧(TabW W aqz apd aq0 aq1 aop aoq pl)∧(Blk W (ao2.heap.size) 61 #[.int .i64 pl,.func (.func 76) #[] #[pT aop,pT aoq]])∧(Blk W aqu 25 #[S ((qR (SH 0 0) (tenI pl*tenI pl)).1),S ((qR (SH 0 0) (tenI pl*tenI pl)).2)])∧(Blk W ao7 33 #[S ((qR (SL k 0) (tenI pl*tenI pl)).1),S ((qR (SL k 0) (tenI pl*tenI pl)).2),S ((qR (SH k 0) (tenI pl*tenI pl)).1),S ((qR (SH k 0) (tenI pl*tenI pl)).2)])) (λk=>⟨λkx ⟨q1,zl,E,h0,h1,h2,h3,h4,h5,h6,h7,h8⟩=>⟨q1,Nat.le_trans zl (bz kx),xt E kx,be kx h0,be kx h1,be kx h2,be kx h3,be kx h4,TabW.ext kx h5,be kx h6,be kx h7,be kx h8⟩,λkx hb ⟨q1,zl,E,h0,h1,h2,h3,h4,h5,h6,h7,h8⟩=>⟨q1,(by rw[kx.size];exact zl),plw kx E,pb kx h0,pb kx h1,pb kx h2,pb kx h3,pb kx h4,TabW.put kx om h5,pb kx h6,pb kx h7,pb kx h8⟩⟩) ?h0 hTb (λe k e' W=>∃nb:Nat,e'=upd (updL e [63] [IV (za k) zb (za (k+1)) zb]) 15 (pT nb)∧asi.heap.size<=nb∧Blk W nb 33 #[S ((qR (za k) zb).1),S ((qR (za k) zb).2),S ((qR (za (k+1)) zb).1),S ((qR (za (k+1)) zb).2)]∧(λk W=>k<=n∧asi.heap.size<=W.heap.size∧Ext w W∧(Blk W (w.heap.size) 27 (t7 ma mb sa sb ea eb la lb ha hb oa ob ga gb))∧(Blk W (aqw.heap.size) 65 #[.func (.func gp) #[] #[]])∧(Blk W (aqx.heap.size) 66 #[.func (.func gc) #[] #[]])∧(Blk W (aqe.heap.size) 33 #[S ([]),S ([]),S ([]),S ([])])∧(Blk W (aqf.heap.size) 34 #[.int .i64 0])∧(TabW W aqz apd aq0 aq1 aop aoq pl)∧(Blk W (ao2.heap.size) 61 #[.int .i64 pl,.func (.func 76) #[] #[pT aop,pT aoq]])∧(Blk W aqu 25 #[S ((qR (SH 0 0) (tenI pl*tenI pl)).1),S ((qR (SH 0 0) (tenI pl*tenI pl)).2)])∧(Blk W ao7 33 #[S ((qR (SL k 0) (tenI pl*tenI pl)).1),S ((qR (SL k 0) (tenI pl*tenI pl)).2),S ((qR (SH k 0) (tenI pl*tenI pl)).1),S ((qR (SH k 0) (tenI pl*tenI pl)).2)])) k W) ?hA ?asn ?body ?stop
 case hbs=>
  intro b hb;simp only[List.mem_cons,List.not_mem_nil,or_false]at hb;rcases hb with rfl|rfl <;>exact Or.inr om
 case h0=>
  exact⟨Nat.zero_le _,Nat.le_refl _,aqn,aqd,aqh,aqi,aqj,aqk,aqv,aql,aqm,ar0⟩
 case hA=>
  rintro k e' W b r r' hb hl ⟨nb,he,hnb,hbn,q1,zl,E,h0,h1,h2,h3,h4,h5,h6,h7,h8⟩;have kx:=put_putObj W b (.loop r');have hne:∀{c t cs},Blk W c t cs->c≠b:=λh e=>by subst e;unfold Blk at h;rw[hl]at h;cases h
  exact⟨nb,he,hnb,Put.blk kx (hne hbn) hbn,q1,(by rw[kx.size];exact zl),plw kx E,Put.blk kx (hne h0) h0,Put.blk kx (hne h1) h1,Put.blk kx (hne h2) h2,Put.blk kx (hne h3) h3,Put.blk kx (hne h4) h4,TabW.put kx om h5,Put.blk kx (hne h6) h6,Put.blk kx (hne h7) h7,Put.blk kx (hne h8) h8⟩
 case asn=>
  rintro l k W K hkM ⟨q1,zl,E,h0,h1,h2,h3,h4,h5,h6,h7,h8⟩ hK;have EW:=Ext.refl W;refine go ?_;refine al inf1032 (λ_ api awo=>?_);have h0:=be api.2 h0;have h1:=be api.2 h1;have h2:=be api.2 h2;have h3:=be api.2 h3;have h4:=be api.2 h4;have h5:=TabW.ext api.2 h5;have h6:=be api.2 h6;have h7:=be api.2 h7;have h8:=be api.2 h8;have E:=xt E api.2;have EW:=xt EW api.2;refine SA awo (λ_ ape awp=>?_);have h0:=pb ape h0;have h1:=pb ape h1;have h2:=pb ape h2;have h3:=pb ape h3;have h4:=pb ape h4;have h5:=TabW.put ape om h5;have h6:=pb ape h6;have h7:=pb ape h7;have h8:=pb ape h8;have E:=plw ape E;have a4z:=psz ape;have EW:=plw ape EW;refine go ?_;exact hK _ _ EW ⟨_,rfl,om,awp,q1,(by have:=bz EW;omega),E,h0,h1,h2,h3,h4,h5,h6,h7,h8⟩
 case body=>
  rintro l k e' W hkM hq ⟨nb,rfl,hnb,hbn,q1,zl,E,h0,h1,h2,h3,h4,h5,h6,h7,h8⟩;have zW:=bz E;have znb:=bt hbn;have hL:∀b∈[ao7,apd],NotLD W b:=by intro b hb;simp only[List.mem_cons,List.not_mem_nil,or_false]at hb;rcases hb with rfl|rfl;exact NotLD.blk h8;exact NotLD.map h5.mp
  have Kp:=Keeps.refl [ao7,apd] W;obtain⟨Wb,hWb⟩:∃x,x=W:=⟨_,rfl⟩;have zWb:Wb.heap.size=W.heap.size:=by rw[hWb]
  rw[<-hWb]at hL;have Kp:Keeps [ao7,apd] Wb W:=hWb▸Kp;refine go ?_;refine l_op (k_loadA (cs:=[S (qR ma mb).1,S (qR ma mb).2,S (qR sa sb).1,S (qR sa sb).2,S (qR ea eb).1,S (qR ea eb).2,S (qR la lb).1,S (qR la lb).2,S (qR ha hb).1,S (qR ha hb).2,S (qR oa ob).1,S (qR oa ob).2,S (qR ga gb).1,S (qR ga gb).2]) (b:=w.heap.size) (o:=0) U2296 rfl sz2296 rfl (Blk.cells h0 (i:=0) krRja) ?_);(try refine l_op (k_loadA (cs:=[S ((qR (za k) zb).1),S ((qR (za k) zb).2),S ((qR (za (k+1)) zb).1),S ((qR (za (k+1)) zb).2)]) (b:=nb) (o:=0) U1032 rfl sz1032 rfl (Blk.cells hbn (i:=0) rfl) ?_));refine l_op (k_cVx (vs:=[.agg (t7 ma mb sa sb ea eb la lb ha hb oa ob ga gb),IV (za k) zb (za (k+1)) zb]) (lb:=[]) egp rfl rfl (hPt k hkM _ (TabW.tb h5)) ?_);rintro _ awr apb ⟨ark,rfl,aon,a41⟩;have h0:=be apb h0;have h1:=be apb h1;have h2:=be apb h2;have h3:=be apb h3;have h4:=be apb h4;have h5:=TabW.ext apb h5;have h6:=be apb h6;have h7:=be apb h7;have h8:=be apb h8;have Kp:=KpK.ext apb Kp;have hbn:=be apb hbn;have E:=xt E apb;have a42:=bz apb
  have asj:=bt aon;refine go ?_;refine c_lp [(17,18),(69,101)] (λkk e W=>∃j:Nat,(m-j=kk)∧(e 69=.int .i64 j)∧(j<=m)∧(awr.heap.size<=W.heap.size)∧(Ext w W)∧(Blk W (w.heap.size) 27 (t7 ma mb sa sb ea eb la lb ha hb oa ob ga gb))∧(Blk W (aqw.heap.size) 65 #[.func (.func gp) #[] #[]])∧(Blk W (aqx.heap.size) 66 #[.func (.func gc) #[] #[]])∧(Blk W (aqe.heap.size) 33 #[S ([]),S ([]),S ([]),S ([])])∧(Blk W (aqf.heap.size) 34 #[.int .i64 0])∧(TabW W aqz apd aq0 aq1 aop aoq pl)∧(Blk W (ao2.heap.size) 61 #[.int .i64 pl,.func (.func 76) #[] #[pT aop,pT aoq]])∧(Blk W aqu 25 #[S ((qR (SH 0 0) (tenI pl*tenI pl)).1),S ((qR (SH 0 0) (tenI pl*tenI pl)).2)])∧(Keeps [ao7,apd] Wb W)∧(Blk W nb 33 #[S ((qR (za k) zb).1),S ((qR (za k) zb).2),S ((qR (za (k+1)) zb).1),S ((qR (za (k+1)) zb).2)])∧(Blk W ark 33 (pA k))∧(Blk W ao7 33 #[S ((qR (SL k j) (tenI pl*tenI pl)).1),S ((qR (SL k j) (tenI pl*tenI pl)).2),S ((qR (SH k j) (tenI pl*tenI pl)).1),S ((qR (SH k j) (tenI pl*tenI pl)).2)])) (m-0) ⟨0,rfl,rfl,(Nat.zero_le _),(Nat.le_refl _),E,h0,h1,h2,h3,h4,h5,h6,h7,Kp,hbn,aon,h8⟩ ?_;rintro _ _ aqo ⟨j,rfl,arl,hj,hz0,aos,h0,h1,h2,h3,h4,h5,h6,h7,Kp,hbn,aon,h8⟩
  have a45:=bz aos;by_cases h0j:j<m;refine go ?_;refine l_op (k_indexAddr (A:=some ⟨ark,0,none⟩) (bk:=ark) (o:=0) (m:=m) (c:=m) (i:=j) (oo:=0+j*4) U1116 sz1032 rfl rfl arl om rfl ?_);(try refine l_op (k_loadA (cs:=[S ((qR (xl k j) zb).1),S ((qR (xl k j) zb).2),S ((qR (xh k j) zb).1),S ((qR (xh k j) zb).2)]) (b:=ark) (o:=0+j*4) U1032 rfl sz1032 rfl (λi u hi=>hPc k j hkM h0j aon i u hi) ?_));refine al inf1032 (λ_ apc aws=>?_);have h0:=be apc.2 h0;have h1:=be apc.2 h1;have h2:=be apc.2 h2;have h3:=be apc.2 h3;have h4:=be apc.2 h4;have h5:=TabW.ext apc.2 h5;have h6:=be apc.2 h6;have h7:=be apc.2 h7;have Kp:=KpK.ext apc.2 Kp;have hbn:=be apc.2 hbn;have aon:=be apc.2 aon;have h8:=be apc.2 h8;have aos:=xt aos apc.2;refine SA aws (λ_ ao8 aot=>?_);have h0:=pb ao8 h0;have h1:=pb ao8 h1;have h2:=pb ao8 h2;have h3:=pb ao8 h3;have h4:=pb ao8 h4;have h5:=TabW.put ao8 om h5;have h6:=pb ao8 h6;have h7:=pb ao8 h7;have Kp:=KpK.put ao8 (by first|exact Or.inr om|exact Or.inl (by simp)) Kp;have hbn:=pb ao8 hbn;have aon:=pb ao8 aon;have h8:=pb ao8 h8;have aos:=plw ao8 aos;have a49:=psz ao8;refine go ?_
  refine cl en2101 ((hLs k j _ (TabW.tb h5))) ?_;rintro _ arm ao9 rfl;have h0:=be ao9.2 h0;have h1:=be ao9.2 h1;have h2:=be ao9.2 h2;have h3:=be ao9.2 h3;have h4:=be ao9.2 h4;have h5:=TabW.ext ao9.2 h5;have h6:=be ao9.2 h6;have h7:=be ao9.2 h7;have Kp:=KpK.ext ao9.2 Kp;have hbn:=be ao9.2 hbn;have aon:=be ao9.2 aon;have h8:=be ao9.2 h8;have aot:=be ao9.2 aot;have aos:=xt aos ao9.2;refine go ?_;rcases Bool.eq_false_or_eq_true (ne k j)with ap6|ap6;refine go ?_;refine c_dv hmix 18 [18,78,79,80,81,82,83,84,85,86,87,88,89,90,91,92,93,94] [some (78,.agg #[.int .i64 pl,.func (.func 76) #[] #[pT aop,pT aoq]]),some (79,IV (xl k j) zb (xh k j) zb),some (80,pT w.heap.size),some (81,QV ma mb),some (82,.pointer (some ⟨w.heap.size,2,none⟩)),some (83,QV sa sb),some (84,IV (mk k j) (tenI pl) (mu k j) (tenI pl)),some (85,.func (.func gc) #[] #[]),some (86,.agg #[.int .i64 pl,.func (.func 76) #[] #[pT aop,pT aoq]]),some (87,.agg (t7 ma mb sa sb ea eb la lb ha hb oa ob ga gb)),some (88,IV (xl k j) zb (xh k j) zb),some (89,IV (bk k j) (tenI pl) (bu k j) (tenI pl)),some (90,IV (ck k j) (tenI pl) (cu k j) (tenI pl)),some (91,.tuple #[IV (mk k j*ck k j) (tenI pl*tenI pl) (mu k j*cu k j) (tenI pl*tenI pl),.int .i64 0]),some (92,IV (mk k j*ck k j) (tenI pl*tenI pl) (mu k j*cu k j) (tenI pl*tenI pl)),some (93,.int .i64 0),some (94,IV (mk k j*ck k j) (tenI pl*tenI pl) (mu k j*cu k j) (tenI pl*tenI pl)),none] (XH (λW=>arm.grownBy W (some apd)∧TabW W aqz apd aq0 aq1 aop aoq pl) arm.heap.size 17 18 33 #[S ([]),S ([]),S ([]),S ([])]) (XH.start ⟨gb_ext (World.grownBy.refl arm _) (Ext.drew arm),TabW.ext (Ext.drew arm) h5⟩) krRja krRja krRja ?_ ?_
  refine⟨λa5b _ _ awu _ ask _ _ _=>?_,?_⟩;obtain⟨a5b,rfl⟩:=ovE awu;have awv:=(Blk.gr ask.1.1 (by simp;omega) h6);refine go ?_;exact dvHx rfl ask ask.1 erRja;refine⟨λa5i _ _ aww _ asl _ _ _=>?_,?_⟩;obtain⟨a5i,rfl⟩:=ovE aww;have awx:=(Blk.gr asl.1.1 (by simp;omega) aot);(try refine l_op (k_loadA (cs:=[S ((qR (xl k j) zb).1),S ((qR (xl k j) zb).2),S ((qR (xh k j) zb).1),S ((qR (xh k j) zb).2)]) (b:=aqo.heap.size) (o:=0) U1032 rfl sz1032 rfl (Blk.cells awx (i:=0) rfl) ?_));refine go ?_;exact dvHx rfl asl asl.1 erRja;refine⟨λa5p _ _ awy _ at8 _ _ _=>?_,?_⟩;obtain⟨a5p,rfl⟩:=ovE awy;refine l_op (k_fieldAddr (b:=w.heap.size) (o:=0) (off:=0) (oo:=0) U2296 rfl rfl sz36 rfl rfl ?_);refine go ?_;exact dvHx rfl at8 at8.1 erRja;refine⟨λawz _ _ a5y aw0 asm _ _ _=>?_,?_⟩;obtain⟨awz,rfl⟩:=ovE a5y;have aw1:=zpv (aw0 2 _ _ rfl rfl);have aw2:=(Blk.gr asm.1.1 (by simp;omega) h0);refine go ?_;exact dvHx rfl asm asm.1 erRja;refine⟨λa54 _ _ aw3 _ at9 _ _ _=>?_,?_⟩;obtain⟨a54,rfl⟩:=ovE aw3;refine l_op (k_fieldAddr (b:=w.heap.size) (o:=0) (off:=2) (oo:=2) U2296 rfl rfl sz36 rfl rfl ?_);refine go ?_;exact dvHx rfl at9 at9.1 erRja;refine⟨λaw4 _ _ a6d aw5 aso _ _ _=>?_,?_⟩;obtain⟨aw4,rfl⟩:=ovE a6d;have aw6:=zpv (aw5 4 _ _ rfl rfl);have aw7:=(Blk.gr aso.1.1 (by simp;omega) h0)
  refine go ?_;exact dvHx rfl aso aso.1 erRja;refine⟨λar1 _ _ a6j ar2 aow _ _ _=>?_,?_⟩;obtain⟨ar1,rfl⟩:=ovE a6j;have aw8:=zpv (ar2 0 _ _ rfl rfl);have aw9:=zpv (ar2 1 _ _ rfl rfl);have axa:=zpv (ar2 3 _ _ rfl rfl);have axb:=zpv (ar2 5 _ _ rfl rfl);have h0:=(Blk.gr aow.1.1 (by simp;omega) h0);have h1:=(Blk.gr aow.1.1 (by simp;omega) h1);have h2:=(Blk.gr aow.1.1 (by simp;omega) h2);have h3:=(Blk.gr aow.1.1 (by simp;omega) h3);have h4:=(Blk.gr aow.1.1 (by simp;omega) h4);have h6:=(Blk.gr aow.1.1 (by simp;omega) h6);have h7:=(Blk.gr aow.1.1 (by simp;omega) h7);have Kp:=(KpK.gr aow.1.1 (λb hb=>by cases hb;exact Or.inl (by simp)) Kp);have hbn:=(Blk.gr aow.1.1 (by simp;omega) hbn);have aon:=(Blk.gr aow.1.1 (by simp;omega) aon);have h8:=(Blk.gr aow.1.1 (by simp;omega) h8);have aot:=(Blk.gr aow.1.1 (by simp;omega) aot);have h5:=aow.1.2;have zlh0:=bt h0;have zlh1:=bt h1;have zlh2:=bt h2;have zlh3:=bt h3;have zlh4:=bt h4;have zlh6:=bt h6;have zlh7:=bt h7;have zlhbn:=bt hbn;have asj:=bt aon;have zlh8:=bt h8;have aua:=bt aot;have a6n:=aow.1.1.size;refine l_op (k_callA (vs:=[.agg #[.int .i64 pl,.func (.func 76) #[] #[pT aop,pT aoq]],IV (xl k j) zb (xh k j) zb,QV ma mb,QV sa sb]) en3038 (cons_eq aw8 (cons_eq aw9 (cons_eq axa (cons_eq axb rfl)))) (hMs k j hkM h0j ap6 _ _ _ _ _ _ _ h5 om) ?_)
  rintro _ _ ⟨aoz,axc,rfl⟩;have a6q:=aoz.size;refine go ?_;exact dvH rfl aow ⟨gb_trans aow.1.1 aoz,axc⟩ aoz (λg hgg=>by cases hgg;omega);refine⟨λa6r _ _ axd _ asq _ _ _=>?_,?_⟩;obtain⟨a6r,rfl⟩:=ovE axd;have axe:=(Blk.gr asq.1.1 (by simp;omega) h2);refine go ?_;exact dvHx rfl asq asq.1 erRja;refine⟨λa6y _ _ axf _ asr _ _ _=>?_,?_⟩;obtain⟨a6y,rfl⟩:=ovE axf;have axg:=(Blk.gr asr.1.1 (by simp;omega) h6);refine go ?_;exact dvHx rfl asr asr.1 erRja;refine⟨λa65 _ _ axh _ ass _ _ _=>?_,?_⟩;obtain⟨a65,rfl⟩:=ovE axh;have axi:=(Blk.gr ass.1.1 (by simp;omega) h0);refine l_op (k_loadA (cs:=[S (qR ma mb).1,S (qR ma mb).2,S (qR sa sb).1,S (qR sa sb).2,S (qR ea eb).1,S (qR ea eb).2,S (qR la lb).1,S (qR la lb).2,S (qR ha hb).1,S (qR ha hb).2,S (qR oa ob).1,S (qR oa ob).2,S (qR ga gb).1,S (qR ga gb).2]) (b:=w.heap.size) (o:=0) U2296 rfl sz2296 rfl (Blk.cells axi (i:=0) krRja) ?_);refine go ?_;exact dvHx rfl ass ass.1 erRja;refine⟨λa7c _ _ axj _ ast _ _ _=>?_,?_⟩;obtain⟨a7c,rfl⟩:=ovE axj;have axk:=(Blk.gr ast.1.1 (by simp;omega) aot);(try refine l_op (k_loadA (cs:=[S ((qR (xl k j) zb).1),S ((qR (xl k j) zb).2),S ((qR (xh k j) zb).1),S ((qR (xh k j) zb).2)]) (b:=aqo.heap.size) (o:=0) U1032 rfl sz1032 rfl (Blk.cells axk (i:=0) rfl) ?_));refine go ?_;exact dvHx rfl ast ast.1 erRja
  refine⟨λasu _ _ a7l asv aox _ _ _=>?_,?_⟩;obtain⟨asu,rfl⟩:=ovE a7l;have axl:=zpv (asv 8 _ _ rfl rfl);have axm:=zpv (asv 9 _ _ rfl rfl);have axn:=zpv (asv 10 _ _ rfl rfl);have h0:=(Blk.gr aox.1.1 (by simp;omega) h0);have h1:=(Blk.gr aox.1.1 (by simp;omega) h1);have h2:=(Blk.gr aox.1.1 (by simp;omega) h2);have h3:=(Blk.gr aox.1.1 (by simp;omega) h3);have h4:=(Blk.gr aox.1.1 (by simp;omega) h4);have h6:=(Blk.gr aox.1.1 (by simp;omega) h6);have h7:=(Blk.gr aox.1.1 (by simp;omega) h7);have Kp:=(KpK.gr aox.1.1 (λb hb=>by cases hb;exact Or.inl (by simp)) Kp);have hbn:=(Blk.gr aox.1.1 (by simp;omega) hbn);have aon:=(Blk.gr aox.1.1 (by simp;omega) aon);have h8:=(Blk.gr aox.1.1 (by simp;omega) h8);have aot:=(Blk.gr aox.1.1 (by simp;omega) aot);have h5:=aox.1.2;have zlh0:=bt h0;have zlh1:=bt h1;have zlh2:=bt h2;have zlh3:=bt h3;have zlh4:=bt h4;have zlh6:=bt h6;have zlh7:=bt h7;have zlhbn:=bt hbn;have asj:=bt aon;have zlh8:=bt h8;have aua:=bt aot;have a7p:=aox.1.1.size;refine l_op (k_callA (vs:=[.agg #[.int .i64 pl,.func (.func 76) #[] #[pT aop,pT aoq]],.agg (t7 ma mb sa sb ea eb la lb ha hb oa ob ga gb),IV (xl k j) zb (xh k j) zb]) en2261 (cons_eq axl (cons_eq axm (cons_eq axn rfl))) (hBn k j hkM h0j ap6 _ _ _ _ _ _ _ h5 om) ?_)
  rintro _ _ ⟨ao0,axo,rfl⟩;have a7s:=ao0.size;refine go ?_;exact dvH rfl aox ⟨gb_trans aox.1.1 ao0,axo⟩ ao0 (λg hgg=>by cases hgg;omega);refine⟨λaub _ _ a7v auc aov _ _ _=>?_,?_⟩;obtain⟨aub,rfl⟩:=ovE a7v;have axp:=zpv (auc 7 _ _ rfl rfl);have axq:=zpv (auc 11 _ _ rfl rfl);have h0:=(Blk.gr aov.1.1 (by simp;omega) h0);have h1:=(Blk.gr aov.1.1 (by simp;omega) h1);have h2:=(Blk.gr aov.1.1 (by simp;omega) h2);have h3:=(Blk.gr aov.1.1 (by simp;omega) h3);have h4:=(Blk.gr aov.1.1 (by simp;omega) h4);have h6:=(Blk.gr aov.1.1 (by simp;omega) h6);have h7:=(Blk.gr aov.1.1 (by simp;omega) h7);have Kp:=(KpK.gr aov.1.1 (λb hb=>by cases hb;exact Or.inl (by simp)) Kp);have hbn:=(Blk.gr aov.1.1 (by simp;omega) hbn);have aon:=(Blk.gr aov.1.1 (by simp;omega) aon);have h8:=(Blk.gr aov.1.1 (by simp;omega) h8);have aot:=(Blk.gr aov.1.1 (by simp;omega) aot);have h5:=aov.1.2;have zlh0:=bt h0;have zlh1:=bt h1;have zlh2:=bt h2;have zlh3:=bt h3;have zlh4:=bt h4;have zlh6:=bt h6;have zlh7:=bt h7;have zlhbn:=bt hbn;have asj:=bt aon;have zlh8:=bt h8;have aua:=bt aot;have a7z:=aov.1.1.size;refine l_op (k_cVx (vs:=[IV (bk k j) (tenI pl) (bu k j) (tenI pl)]) (lb:=[]) egc axp (cons_eq axq rfl) (hCh k j _ (TabW.tb h5)) ?_);rintro _ _ aoy rfl;refine go ?_;exact dvHx rfl aov ⟨gb_ext aov.1.1 aoy,TabW.ext aoy aov.1.2⟩ aoy
  refine⟨λaue _ _ a78 auf arn _ _ _=>?_,?_⟩;obtain⟨aue,rfl⟩:=ovE a78;have axr:=zpv (auf 6 _ _ rfl rfl);have axs:=zpv (auf 12 _ _ rfl rfl);have h5:=arn.1.2;refine cl en3082 ((hMu k j hkM h0j ap6 _ (TabW.tb h5))) ?_ (cons_eq axr (cons_eq axs rfl));rintro _ _ aro rfl;refine go ?_;exact dvHx rfl arn ⟨gb_ext arn.1.1 aro.2,TabW.ext aro.2 arn.1.2⟩ aro.2;refine⟨λaxt _ _ a8g axu auh _ _ _=>?_,?_⟩;obtain⟨axt,rfl⟩:=ovE a8g;have axv:=zpv (axu 13 _ _ rfl rfl);refine go ?_;exact dvHx rfl auh auh.1 erRja;refine⟨λaxw _ _ a8m axx aui _ _ _=>?_,?_⟩;obtain⟨axw,rfl⟩:=ovE a8m;have axy:=zpv (axx 13 _ _ rfl rfl);refine go ?_;exact dvHx rfl aui aui.1 erRja;refine⟨λauj _ _ a8s auk arp _ _ _=>?_,?_⟩;obtain⟨auj,rfl⟩:=ovE a8s;have axz:=zpv (auk 14 _ _ rfl rfl);have ax0:=zpv (auk 15 _ _ rfl rfl);have h5:=arp.1.2;refine cl en2104 (imust_ok (x:=(qR (mk k j*ck k j) (tenI pl*tenI pl),qR (mu k j*cu k j) (tenI pl*tenI pl)))) ?_ (cons_eq axz (cons_eq ax0 rfl));rintro _ _ arq rfl;refine go ?_;exact dvHx rfl arp ⟨gb_ext arp.1.1 arq.2,TabW.ext arq.2 arp.1.2⟩ arq.2;refine⟨λa8y _ _ a81 _ ar3 _ _ _=>?_,?_⟩;obtain⟨a8y,rfl⟩:=ovE a81;have asx:=low_gr aos ar3.1.1 (bz aos) (λg hgg=>by cases hgg;omega);have a87:=bz asx;refine al inf1032 (λ_ ar4 ax1=>?_);refine go ?_;exact dvHa rfl ar3 ⟨gb_ext ar3.1.1 ar4.2,TabW.ext ar4.2 ar3.1.2⟩ ar4.2 ax1
  exact trivial;intro ar5 _ _ ax2 aum ax3 ao1;obtain⟨ar5,rfl⟩:=ovE aum;have apu:=(Blk.gr ao1.1.1 (by simp;omega) h0);have a9b:=bt apu;have apv:=(Blk.gr ao1.1.1 (by simp;omega) h1);have a9c:=bt apv;have apw:=(Blk.gr ao1.1.1 (by simp;omega) h2);have a9d:=bt apw;have apx:=(Blk.gr ao1.1.1 (by simp;omega) h3);have a9e:=bt apx;have apy:=(Blk.gr ao1.1.1 (by simp;omega) h4);have a9f:=bt apy;have apz:=ao1.1.2;have ap0:=(Blk.gr ao1.1.1 (by simp;omega) h6);have a9g:=bt ap0;have ap1:=(Blk.gr ao1.1.1 (by simp;omega) h7);have a9h:=bt ap1;have ap7:=(KpK.gr ao1.1.1 (λb hb=>by cases hb;exact Or.inl (by simp)) Kp);have ap2:=(Blk.gr ao1.1.1 (by simp;omega) hbn);have a9i:=bt ap2;have ap3:=(Blk.gr ao1.1.1 (by simp;omega) aon);have a9j:=bt ap3;have ap8:=(Blk.gr ao1.1.1 (by simp;omega) h8);have a9k:=bt ap8;have ap9:=(Blk.gr ao1.1.1 (by simp;omega) aot);have a9l:=bt ap9;have a9m:=ao1.1.1.size;have ap4:=low_gr aos ao1.1.1 (bz aos) (λg hgg=>by cases hgg;omega);have a9n:=bz ap4;obtain⟨asy,asz,_,aun⟩:=ao1.2.2 (ax2 17 rfl);have asz:=zpv asz;have a9p:=bt aun;have auo:ar5 18=pT asy:=(asz);have ax4:=zpv (ax3 16 _ _ rfl rfl);refine SA aun (λ_ ao3 aqp=>?_);have apu:=pb ao3 apu;have apv:=pb ao3 apv;have apw:=pb ao3 apw;have apx:=pb ao3 apx;have apy:=pb ao3 apy
  have apz:=TabW.put ao3 om apz;have ap0:=pb ao3 ap0;have ap1:=pb ao3 ap1;have ap7:=KpK.put ao3 (by first|exact Or.inr om|exact Or.inl (by simp)) ap7;have ap2:=pb ao3 ap2;have ap3:=pb ao3 ap3;have ap8:=pb ao3 ap8;have ap9:=pb ao3 ap9;have ap4:=plw ao3 ap4;have a9r:=psz ao3;refine go ?_;(try refine l_op (k_loadA (cs:=[S ((qR (SL k j) (tenI pl*tenI pl)).1),S ((qR (SL k j) (tenI pl*tenI pl)).2),S ((qR (SH k j) (tenI pl*tenI pl)).1),S ((qR (SH k j) (tenI pl*tenI pl)).2)]) (b:=ao7) (o:=0) U1032 rfl sz1032 ash (Blk.cells ap8 (i:=0) rfl) ?_));(try refine l_op (k_loadA (cs:=[S ((qR (mk k j*ck k j) (tenI pl*tenI pl)).1),S ((qR (mk k j*ck k j) (tenI pl*tenI pl)).2),S ((qR (mu k j*cu k j) (tenI pl*tenI pl)).1),S ((qR (mu k j*cu k j) (tenI pl*tenI pl)).2)]) (b:=asy) (o:=0) U1032 rfl sz1032 auo (Blk.cells aqp (i:=0) rfl) ?_));refine cl en2044 ((hAd k j hkM h0j ap6 _ (TabW.tb apz))) ?_;rintro _ _ ao4 rfl;have apu:=be ao4.2 apu;have apv:=be ao4.2 apv;have apw:=be ao4.2 apw;have apx:=be ao4.2 apx;have apy:=be ao4.2 apy;have apz:=TabW.ext ao4.2 apz;have ap0:=be ao4.2 ap0;have ap1:=be ao4.2 ap1;have ap7:=KpK.ext ao4.2 ap7;have ap2:=be ao4.2 ap2;have ap3:=be ao4.2 ap3;have ap8:=be ao4.2 ap8;have ap9:=be ao4.2 ap9
  have aqp:=be ao4.2 aqp;have ap4:=xt ap4 ao4.2;refine go ?_;refine cl en2104 (imust_ok (x:=(qR (SL k (j+1)) (tenI pl*tenI pl),qR (SH k (j+1)) (tenI pl*tenI pl)))) ?_;rintro _ _ ao5 rfl;have apu:=be ao5.2 apu;have apv:=be ao5.2 apv;have apw:=be ao5.2 apw;have apx:=be ao5.2 apx;have apy:=be ao5.2 apy;have apz:=TabW.ext ao5.2 apz;have ap0:=be ao5.2 ap0;have ap1:=be ao5.2 ap1;have ap7:=KpK.ext ao5.2 ap7;have ap2:=be ao5.2 ap2;have ap3:=be ao5.2 ap3;have ap8:=be ao5.2 ap8;have ap9:=be ao5.2 ap9;have aqp:=be ao5.2 aqp;have ap4:=xt ap4 ao5.2;refine SA ap8 (λ_ ao6 ax5=>?_);have apu:=pb ao6 apu;have apv:=pb ao6 apv;have apw:=pb ao6 apw;have apx:=pb ao6 apx;have apy:=pb ao6 apy;have apz:=TabW.put ao6 om apz;have ap0:=pb ao6 ap0;have ap1:=pb ao6 ap1;have ap7:=KpK.put ao6 (by first|exact Or.inr om|exact Or.inl (by simp)) ap7;have ap2:=pb ao6 ap2;have ap3:=pb ao6 ap3;have ap9:=pb ao6 ap9;have aqp:=pb ao6 aqp;have ap4:=plw ao6 ap4;have a9x:=psz ao6;refine go ?_;refine l_op (k_add (a:=(j:Int)) (b:=1) (c:=((j+1:Nat):Int)) arl rfl (by unfold In64;omega) om ?_);refine go ?_;exact lend ⟨j+1,rfl,rfl,om,om,ap4,apu,apv,apw,apx,apy,apz,ap0,ap1,ap7,ap2,ap3,ax5⟩
  refine go ?_;refine l_op (k_add (a:=(j:Int)) (b:=1) (c:=((j+1:Nat):Int)) arl rfl (by unfold In64;omega) om ?_);refine go ?_;exact lend ⟨j+1,rfl,rfl,om,om,aos,h0,h1,h2,h3,h4,h5,h6,h7,Kp,hbn,aon,(by rw[(hSk k j ap6).1,(hSk k j ap6).2];exact h8)⟩;obtain rfl:j=m:=by omega
  refine go ?_;exact⟨KeepL.of (hWb▸Kp) (hWb▸hL),KpC.of (hWb▸Kp),h5.tb,om,(by have:=Kp.size;omega),aos,h0,h1,h2,h3,h4,h5,h6,h7,(by rw[(hSe k).1,(hSe k).2];exact h8)⟩
 case stop=>
  rintro D W hD ⟨q1,zl,E,h0,h1,h2,h3,h4,h5,h6,h7,h8⟩ hK;have zW:=bz E;refine go ?_;(try refine l_op (k_loadA (cs:=[S ((qR (SL n 0) (tenI pl*tenI pl)).1),S ((qR (SL n 0) (tenI pl*tenI pl)).2),S ((qR (SH n 0) (tenI pl*tenI pl)).1),S ((qR (SH n 0) (tenI pl*tenI pl)).2)]) (b:=ao7) (o:=0) U1032 rfl sz1032 ash (Blk.cells h8 (i:=0) rfl) ?_));refine go ?_;refine cl en1048 ((hRd _ (TabW.tb h5))) ?_;rintro _ _ apj rfl;have h0:=be apj.2 h0;have h1:=be apj.2 h1;have h2:=be apj.2 h2;have h3:=be apj.2 h3;have h4:=be apj.2 h4;have h6:=be apj.2 h6;have h7:=be apj.2 h7;have h8:=be apj.2 h8;have hK:=Dfr.ext apj.2 hK;have E:=xt E apj.2;refine go ?_;refine cl en2104 (imust_ok (x:=(qR ra rb,qR ua ub))) ?_;rintro _ _ apk rfl;have h0:=be apk.2 h0;have h1:=be apk.2 h1;have h2:=be apk.2 h2;have h3:=be apk.2 h3;have h4:=be apk.2 h4;have h6:=be apk.2 h6;have h7:=be apk.2 h7;have h8:=be apk.2 h8;have hK:=Dfr.ext apk.2 hK;have E:=xt E apk.2;refine SA h3 (λ_ apl as0=>?_);have h0:=pb apl h0;have h1:=pb apl h1;have h2:=pb apl h2;have h4:=pb apl h4;have h6:=pb apl h6;have h7:=pb apl h7;have h8:=pb apl h8;have hK:=Dfr.put apl (hK.ne h3) hK;have E:=plw apl E;have a93:=psz apl
  refine SO h4 (λ_ apm ax8=>?_);have h0:=pb apm h0;have h1:=pb apm h1;have h2:=pb apm h2;have as0:=pb apm as0;have h6:=pb apm h6;have h7:=pb apm h7;have h8:=pb apm h8;have hK:=Dfr.put apm (hK.ne h4) hK;have E:=plw apm E;have a95:=psz apm;refine go ?_;refine t_retSM (b1:=aqe.heap.size) (b2:=aqf.heap.size) (v:=.tuple #[IV ra rb ua ub,.int .i64 0]) hK en2102 (λ_ _=>safe_ret) E (Nat.le_trans (bz aqn) hD) (res2 (r1:=.cell 10 33) (r2:=.cell 11 34) rfl ?_ ?_) rfl;refine res_cellA (t:=10) (cs:=[S (qR ra rb).1,S (qR ra rb).2,S (qR ua ub).1,S (qR ua ub).2]) (b:=aqe.heap.size) (o:=0) U1032 rfl sz1032 ?_ ?_;exact rfl;exact Blk.cells (Blk.dfr hK as0) (i:=0) rfl;refine res_cell (t:=11) (b:=aqf.heap.size) (o:=0) U32 rfl ?_ ?_;exact rfl;exact Blk.cell (Blk.dfr hK ax8) rfl
theorem consumer15_ok {ma mb sa sb ea eb la lb ha hb oa ob ga gb ra rb ua ub:Int}{n pl:Nat}{w:World}(hTo:∀W,Tb W->CL 39 #[.agg (t7 ma mb sa sb ea eb la lb ha hb oa ob ga gb),.int .i64 n,.int .i64 pl,.func (.func 40) #[] #[],.func (.func 41) #[] #[]] W (Ret W λv _=>v=.tuple #[IV ra rb ua ub,.int .i64 0]))(ht:Tb w):
    CL 14 #[.agg (t7 ma mb sa sb ea eb la lb ha hb oa ob ga gb),.int .i64 n,.int .i64 pl] w (Ret w λv w'=>v=.tuple #[IV ra rb ua ub,.int .i64 0]):=by
 refine f_in Tryz.func14 rfl ?_;refine go ?_;refine bx (λaoo aoq sc=>?_);have r8:=aoq.2;refine al inf1032 (λ_ aop aol=>?_);have⟨sc,r8⟩:=be1 aop.2 sc r8;refine go ?_;refine l_op (k_loadA (cs:=[S (qR ma mb).1,S (qR ma mb).2,S (qR sa sb).1,S (qR sa sb).2,S (qR ea eb).1,S (qR ea eb).2,S (qR la lb).1,S (qR la lb).2,S (qR ha hb).1,S (qR ha hb).2,S (qR oa ob).1,S (qR oa ob).2,S (qR ga gb).1,S (qR ga gb).2]) (b:=w.heap.size) (o:=0) U2296 rfl sz2296 rfl (Blk.cells sc (i:=0) (by kernel_rfl)) ?_);refine go ?_;refine cl en3039 ((hTo _ (ht.ext r8))) ?_;rintro _ _ aom rfl;have⟨sc,aol,r8⟩:=be2 aom.2 sc aol r8;refine go ?_;refine SA aol (λ_ aon aor=>?_);have⟨sc,r8,_⟩:=pl1 aon sc r8;refine go ?_;refine f_out (v:=.tuple #[IV ra rb ua ub,.int .i64 0]) (res2 (r1:=.cell 6 33) (r2:=.tmp 7) rfl ?_ ?_) r8 rfl;refine res_cellA (t:=6) (cs:=[S (qR ra rb).1,S (qR ra rb).2,S (qR ua ub).1,S (qR ua ub).2]) (b:=aoo.heap.size) (o:=0) U1032 rfl sz1032 ?_ ?_;exact rfl;exact Blk.cells aor (i:=0) rfl;exact res_tmp (t:=7) (by exact rfl) _
theorem producer15_ok {ma mb sa sb ea eb la lb ha hb oa ob ga gb ra rb ua ub:Int}{n pl:Nat}{w:World}(hTo:∀W,Tb W->CL 39 #[.agg (t7 ma mb sa sb ea eb la lb ha hb oa ob ga gb),.int .i64 n,.int .i64 pl,.func (.func 42) #[] #[],.func (.func 43) #[] #[]] W (Ret W λv _=>v=.tuple #[IV ra rb ua ub,.int .i64 0]))(ht:Tb w):
    CL 15 #[.agg (t7 ma mb sa sb ea eb la lb ha hb oa ob ga gb),.int .i64 n,.int .i64 pl] w (Ret w λv w'=>v=.tuple #[IV ra rb ua ub,.int .i64 0]):=by
 refine f_in Tryz.func15 rfl ?_;refine go ?_;refine bx (λaoo aoq sc=>?_);have r8:=aoq.2;refine al inf1032 (λ_ aop aol=>?_);have⟨sc,r8⟩:=be1 aop.2 sc r8;refine go ?_;refine l_op (k_loadA (cs:=[S (qR ma mb).1,S (qR ma mb).2,S (qR sa sb).1,S (qR sa sb).2,S (qR ea eb).1,S (qR ea eb).2,S (qR la lb).1,S (qR la lb).2,S (qR ha hb).1,S (qR ha hb).2,S (qR oa ob).1,S (qR oa ob).2,S (qR ga gb).1,S (qR ga gb).2]) (b:=w.heap.size) (o:=0) U2296 rfl sz2296 rfl (Blk.cells sc (i:=0) (by kernel_rfl)) ?_);refine go ?_;refine cl en3039 ((hTo _ (ht.ext r8))) ?_;rintro _ _ aom rfl;have⟨sc,aol,r8⟩:=be2 aom.2 sc aol r8;refine go ?_;refine SA aol (λ_ aon aor=>?_);have⟨sc,r8,_⟩:=pl1 aon sc r8;refine go ?_;refine f_out (v:=.tuple #[IV ra rb ua ub,.int .i64 0]) (res2 (r1:=.cell 6 33) (r2:=.tmp 7) rfl ?_ ?_) r8 rfl;refine res_cellA (t:=6) (cs:=[S (qR ra rb).1,S (qR ra rb).2,S (qR ua ub).1,S (qR ua ub).2]) (b:=aoo.heap.size) (o:=0) U1032 rfl sz1032 ?_ ?_;exact rfl;exact Blk.cells aor (i:=0) rfl;exact res_tmp (t:=7) (by exact rfl) _
end Go.Proofs.YtmehbpjpbbhohaaGreatDoor
namespace Go.Proofs.YtmehbpjpbbhohaaGreatDoor
open Go Go.Eng Go.RowKit
def sumI (g:Nat->Int):Nat->Int
  |0=>0
  |n+1=>sumI g n+g n
theorem sumI_le {g h:Nat->Int}:∀{n:Nat},(∀i,i<n->g i<=h i)->sumI g n<=sumI h n
  |0,_=>Int.le_refl _
  | n+1,k=>by
    have h1:=sumI_le (n:=n) λi hi=>k i om
    have h2:=k n om
    show sumI g n+g n<=sumI h n+h n
    omega
theorem sumI_congr {g h:Nat->Int}:∀{n:Nat},(∀i,i<n->g i=h i)->sumI g n=sumI h n
  |0,_=>rfl
  | n+1,k=>by
    show sumI g n+g n=sumI h n+h n
    rw[sumI_congr (n:=n) λi hi=>k i om,k n om]
theorem sumI_tele (g:Nat->Int):∀n,sumI (λi=>g (i+1)-g i) n=g n-g 0
  |0=>by show(0:Int)=g 0-g 0;omega
  | n+1=>by
    show sumI (λi=>g (i+1)-g i) n+(g (n+1)-g n)=_
    rw[sumI_tele g n];omega
theorem sumI_nn {g:Nat->Int}{n:Nat}(h:∀i,i<n->0<=g i):0<=sumI g n:=by
  have h1:=sumI_le (g:=λ_=>0) h
  have h2:∀m,sumI (λ_=>(0:Int)) m=0:=by
    intro m
    induction m with
    |zero=>rfl
    |succ m ih=>show sumI (λ_=>(0:Int)) m+0=0;rw[ih];rfl
  rw[h2]at h1;exact h1
theorem sumI_head (g:Nat->Int):∀n,sumI g (n+1)=g 0+sumI (λi=>g (i+1)) n
  |0=>by show(0:Int)+g 0=g 0+0;omega
  | n+1=>by
    show sumI g (n+1)+g (n+1)=g 0+(sumI (λi=>g (i+1)) n+g (n+1))
    rw[sumI_head g n];omega
theorem sumI_rev {g h:Nat->Int}:∀{n:Nat},(∀i,i<n->g i=h (n-1-i))->sumI g n=sumI h n
  |0,_=>rfl
  | n +1,k=>by
    rw[sumI_head]
    show g 0+sumI (λi=>g (i+1)) n=sumI h n+h n
    have h0:=k 0 om
    rw[show n+1-1-0=n by omega]at h0
    rw[h0,sumI_rev (g:=λi=>g (i+1)) (h:=h) λi hi=>by
      have h1:=k (i+1) om
      rw[show n+1-1-(i+1)=n-1-i by omega]at h1
      exact h1]
    omega
def mLo (f c:Int->Int)(X Y:Int):Int:=max 0 (f Y-c X)
def mHi (f c:Int->Int)(X Y:Int):Int:=max 0 (c Y-f X)
structure Sd where
  f:Int->Int
  c:Int->Int
  fu:Int->Int
  cu:Int->Int
  fl:Int->Int
  cl:Int->Int
  ct:Int
def Sd.chL (s:Sd)(X:Int):Int:=max 0 (s.fu X-s.cl X)
def Sd.chH (s:Sd)(X:Int):Int:=max 0 (s.cu X-s.fl X)
def Sd.bL (s:Sd)(X Y:Int):Int:=min (s.chL X) (s.chL Y)
def Sd.bH (s:Sd)(X Y:Int):Int:=if X<=s.ct∧s.ct<=Y then max (max (s.chH X) (s.chH Y)) (s.chH s.ct)else max (s.chH X) (s.chH Y)
def Sd.tcL (s:Sd)(X Y:Int):Int:=if X<Y then mLo s.f s.c X Y*s.bL X Y else 0
def Sd.tcH (s:Sd)(X Y:Int):Int:=if X<Y then mHi s.f s.c X Y*s.bH X Y else 0
def Sd.tpL (s:Sd)(T X Y:Int):Int:=if X<Y then mLo s.f s.c X Y*max 0 (T-s.bH X Y)else 0
def Sd.tpH (s:Sd)(T X Y:Int):Int:=if X<Y then mHi s.f s.c X Y*(T-s.bL X Y)else 0
def Sd.conL (s:Sd)(E:Nat->Int)(L H:Int)(n:Nat):Int:=sumI (λi=>s.tcL (E i) (min (E (i+1)) L)+s.tcL (max (E i) H) (E (i+1))) n
def Sd.conH (s:Sd)(E:Nat->Int)(L H:Int)(n:Nat):Int:=sumI (λi=>s.tcH (E i) (min (E (i+1)) L)+s.tcH (max (E i) H) (E (i+1))) n
def Sd.proL (s:Sd)(T:Int)(E:Nat->Int)(L H:Int)(n:Nat):Int:=sumI (λi=>s.tpL T (max (E i) L) (min (E (i+1)) H)) n
def Sd.proH (s:Sd)(T:Int)(E:Nat->Int)(L H:Int)(n:Nat):Int:=sumI (λi=>s.tpH T (max (E i) L) (min (E (i+1)) H)) n
structure Sd.Ok (s:Sd)(T:Int):Prop where
  m:∀X,0<=s.f X∧s.f X<=s.c X∧s.c X<=T
  u:∀X,0<=s.fu X∧s.fu X<=s.cu X∧s.cu X<=T
  l:∀X,0<=s.fl X∧s.fl X<=s.cl X∧s.cl X<=T
section
variable {s:Sd}{T X Y:Int}
theorem Sd.Ok.ch (h:s.Ok T):0<=s.chL X∧s.chL X<=s.chH X∧s.chH X<=T:=by
  have:=h.u X
  have:=h.l X
  unfold Sd.chL Sd.chH
  omega
theorem Sd.Ok.b (h:s.Ok T):0<=s.bL X Y∧s.bL X Y<=s.bH X Y∧s.bH X Y<=T:=by
  have h1:=h.ch (X:=X)
  have h2:=h.ch (X:=Y)
  have h3:=h.ch (X:=s.ct)
  unfold Sd.bL Sd.bH
  split <;>omega
theorem Sd.Ok.mm (h:s.Ok T):0<=mLo s.f s.c X Y∧mLo s.f s.c X Y<=mHi s.f s.c X Y∧mHi s.f s.c X Y<=T:=by
  have:=h.m X
  have:=h.m Y
  unfold mLo mHi
  omega
theorem Sd.Ok.tc (h:s.Ok T):0<=s.tcL X Y∧s.tcL X Y<=s.tcH X Y:=by
  have h1:=h.mm (X:=X) (Y:=Y)
  have h2:=h.b (X:=X) (Y:=Y)
  unfold Sd.tcL Sd.tcH
  split
  · exact⟨Int.mul_nonneg h1.1 h2.1,Int.mul_le_mul h1.2.1 h2.2.1 h2.1 om⟩
  · omega
theorem Sd.Ok.tp (h:s.Ok T):0<=s.tpL T X Y∧s.tpL T X Y<=s.tpH T X Y:=by
  have h1:=h.mm (X:=X) (Y:=Y)
  have h2:=h.b (X:=X) (Y:=Y)
  unfold Sd.tpL Sd.tpH
  split
  · exact⟨Int.mul_nonneg h1.1 om,Int.mul_le_mul h1.2.1 om om om⟩
  · omega
theorem Sd.Ok.con (h:s.Ok T){E:Nat->Int}{L H:Int}{n:Nat}:0<=s.conL E L H n∧s.conL E L H n<=s.conH E L H n:=by
  refine⟨sumI_nn λi _=>?_,sumI_le λi _=>?_⟩
  · have:=(h.tc (X:=E i) (Y:=min (E (i+1)) L)).1
    have:=(h.tc (X:=max (E i) H) (Y:=E (i+1))).1
    omega
  · have:=(h.tc (X:=E i) (Y:=min (E (i+1)) L)).2
    have:=(h.tc (X:=max (E i) H) (Y:=E (i+1))).2
    omega
theorem Sd.Ok.pro (h:s.Ok T){E:Nat->Int}{L H:Int}{n:Nat}:0<=s.proL T E L H n∧s.proL T E L H n<=s.proH T E L H n:=
  ⟨sumI_nn λ_ _=>h.tp.1,sumI_le λ_ _=>h.tp.2⟩
end
structure Bet (f c v:Int->Int)(k:Int):Prop where
  k0:0<k
  mono:∀X Y,X<=Y->v X<=v Y
  lo:∀X,f X*k<=v X
  hi:∀X,v X<=c X*k
theorem Bet.mm {f c v:Int->Int}{k X Y:Int}(h:Bet f c v k)(hXY:X<=Y):mLo f c X Y*k<=v Y-v X:=by
  have h1:=h.lo Y
  have h2:=h.hi X
  have h3:=h.mono X Y hXY
  have h0:=h.k0
  unfold mLo
  rcases(by omega:max 0 (f Y-c X)=0∨max 0 (f Y-c X)=f Y-c X)with e|e <;>rw[e]
  · omega
  · rw[Int.sub_mul];omega
theorem mul_le_T {a b T:Int}(ha:0<=a)(hb:b<=T):a*b<=a*T:=Int.mul_le_mul_of_nonneg_left hb ha
theorem Sd.Ok.con_le {s:Sd}{T k L H:Int}{v:Int->Int}{E:Nat->Int}{n:Nat}(h:s.Ok T)(hT:0<T)(hb:Bet s.f s.c v k)(hv:∀X,0<=v X∧v X<=T*k)(hE:∀i,i<n->E i<=E (i+1))(hLH:L<=H):
    s.conL E L H n<=T*(T-mLo s.f s.c L H):=by
  have k0:=hb.k0
  have t1:∀X Y,X<=Y∨Y<=X->s.tcL X Y*k<=T*(if X<Y then v Y-v X else 0):=by
    intro X Y _
    unfold Sd.tcL
    split
    · have h1:=h.mm (X:=X) (Y:=Y)
      have h2:=h.b (X:=X) (Y:=Y)
      have h3:=hb.mm (show X<=Y by omega)
      calc mLo s.f s.c X Y*s.bL X Y*k<=mLo s.f s.c X Y*T*k:=Int.mul_le_mul_of_nonneg_right (mul_le_T h1.1 om) (Int.le_of_lt k0)
        _=T*(mLo s.f s.c X Y*k):=by grind
        _<=T*(v Y-v X):=Int.mul_le_mul_of_nonneg_left h3 (Int.le_of_lt hT)
    · simp
  have t2:s.conL E L H n*k<=T*((v (min (E n) L)-v (min (E 0) L))+(v (max (E n) H)-v (max (E 0) H))):=by
    have key:∀m,m<=n->s.conL E L H m*k<=T*((v (min (E m) L)-v (min (E 0) L))+(v (max (E m) H)-v (max (E 0) H))):=by
      intro m
      induction m with
      |zero=>intro _;show 0*k<=_;rw[Int.zero_mul,show(v (min (E 0) L)-v (min (E 0) L))+(v (max (E 0) H)-v (max (E 0) H))=0 by omega,Int.mul_zero];exact Int.le_refl _
      | succ m ih=>
        intro _
        have h1:=ih om
        have h2:=hE m om
        have a1:=t1 (E m) (min (E (m+1)) L) om
        have a2:=t1 (max (E m) H) (E (m+1)) om
        have b1:(if E m<min (E (m+1)) L then v (min (E (m+1)) L)-v (E m)else 0)<=v (min (E (m+1)) L)-v (min (E m) L):=by
          split
          · rw[show min (E m) L=E m by omega];exact Int.le_refl _
          · have:=hb.mono (min (E m) L) (min (E (m+1)) L) om;omega
        have b2:(if max (E m) H<E (m+1)then v (E (m+1))-v (max (E m) H)else 0)<=v (max (E (m+1)) H)-v (max (E m) H):=by
          split
          · rw[show max (E (m+1)) H=E (m+1)by omega];exact Int.le_refl _
          · have:=hb.mono (max (E m) H) (max (E (m+1)) H) om;omega
        have c1:=Int.mul_le_mul_of_nonneg_left b1 (Int.le_of_lt hT)
        have c2:=Int.mul_le_mul_of_nonneg_left b2 (Int.le_of_lt hT)
        show(s.conL E L H m+(s.tcL (E m) (min (E (m+1)) L)+s.tcL (max (E m) H) (E (m+1))))*k<=_
        rw[Int.add_mul,Int.add_mul]
        rw[show T*((v (min (E (m+1)) L)-v (min (E 0) L))+(v (max (E (m+1)) H)-v (max (E 0) H)))=T*((v (min (E m) L)-v (min (E 0) L))+(v (max (E m) H)-v (max (E 0) H)))+(T*(v (min (E (m+1)) L)-v (min (E m) L))+T*(v (max (E (m+1)) H)-v (max (E m) H)))by grind]
        omega
    exact key n (Nat.le_refl _)
  refine Int.le_of_mul_le_mul_right (a:=k) ?_ k0
  have v1:=hv (min (E 0) L)
  have v2:=hv (max (E n) H)
  have v3:=hb.mono (min (E n) L) L om
  have v4:=hb.mono H (max (E 0) H) om
  have v5:=hb.mm hLH
  have e:(v (min (E n) L)-v (min (E 0) L))+(v (max (E n) H)-v (max (E 0) H))<=(T-mLo s.f s.c L H)*k:=by rw[Int.sub_mul];omega
  have c:=Int.mul_le_mul_of_nonneg_left e (Int.le_of_lt hT)
  rw[Int.mul_assoc];omega
theorem Sd.Ok.pro_le {s:Sd}{T k L H:Int}{v:Int->Int}{E:Nat->Int}{n:Nat}(h:s.Ok T)(hT:0<T)(hb:Bet s.f s.c v k)(hE:∀i,i<n->E i<=E (i+1))(hLH:L<=H):
    s.proL T E L H n<=T*mHi s.f s.c L H:=by
  have k0:=hb.k0
  have t1:∀X Y,s.tpL T X Y*k<=T*(if X<Y then v Y-v X else 0):=by
    intro X Y
    unfold Sd.tpL
    split
    · have h1:=h.mm (X:=X) (Y:=Y)
      have h2:=h.b (X:=X) (Y:=Y)
      have h3:=hb.mm (show X<=Y by omega)
      calc mLo s.f s.c X Y*max 0 (T-s.bH X Y)*k<=mLo s.f s.c X Y*T*k:=Int.mul_le_mul_of_nonneg_right (mul_le_T h1.1 om) (Int.le_of_lt k0)
        _=T*(mLo s.f s.c X Y*k):=by grind
        _<=T*(v Y-v X):=Int.mul_le_mul_of_nonneg_left h3 (Int.le_of_lt hT)
    · simp
  let q:Int->Int:=λX=>v (min (max X L) H)
  have key:∀m,m<=n->s.proL T E L H m*k<=T*(q (E m)-q (E 0)):=by
    intro m
    induction m with
    |zero=>intro _;show 0*k<=_;rw[Int.zero_mul,Int.sub_self,Int.mul_zero];exact Int.le_refl _
    | succ m ih=>
      intro _
      have h1:=ih om
      have h2:=hE m om
      have a1:=t1 (max (E m) L) (min (E (m+1)) H)
      have b1:(if max (E m) L<min (E (m+1)) H then v (min (E (m+1)) H)-v (max (E m) L)else 0)<=q (E (m+1))-q (E m):=by
        show _<=v (min (max (E (m+1)) L) H)-v (min (max (E m) L) H)
        split
        · rw[show min (max (E (m+1)) L) H=min (E (m+1)) H by omega,show min (max (E m) L) H=max (E m) L by omega];exact Int.le_refl _
        · have:=hb.mono (min (max (E m) L) H) (min (max (E (m+1)) L) H) om;omega
      have c1:=Int.mul_le_mul_of_nonneg_left b1 (Int.le_of_lt hT)
      show(s.proL T E L H m+s.tpL T (max (E m) L) (min (E (m+1)) H))*k<=_
      rw[Int.add_mul,show T*(q (E (m+1))-q (E 0))=T*(q (E m)-q (E 0))+T*(q (E (m+1))-q (E m))by grind]
      omega
  refine Int.le_of_mul_le_mul_right (a:=k) ?_ k0
  have h1:=key n (Nat.le_refl _)
  have v1:q (E n)<=v H:=hb.mono _ _ om
  have v2:v L<=q (E 0):=hb.mono _ _ om
  have v3:v H-v L<=mHi s.f s.c L H*k:=by
    have a:=hb.hi H
    have b:=hb.lo L
    have c:(s.c H-s.f L)*k<=mHi s.f s.c L H*k:=Int.mul_le_mul_of_nonneg_right (by unfold mHi;omega) (Int.le_of_lt k0)
    rw[Int.sub_mul]at c;omega
  have c:=Int.mul_le_mul_of_nonneg_left (show q (E n)-q (E 0)<=mHi s.f s.c L H*k by omega) (Int.le_of_lt hT)
  rw[Int.mul_assoc];omega
end Go.Proofs.YtmehbpjpbbhohaaGreatDoor
namespace Go.Proofs.YtmehbpjpbbhohaaGreatDoor
open Go Go.Eng Go.RowKit
attribute [local irreducible] wpListIn Code.wpIn Oper.wpIn Exit.then Exit.inBlock Exit.noGoto
set_option maxHeartbeats 40000000
end Go.Proofs.YtmehbpjpbbhohaaGreatDoor
namespace Go.Proofs.YtmehbpjpbbhohaaGreatDoor
open Go Go.Eng Go.RowKit
end Go.Proofs.YtmehbpjpbbhohaaGreatDoor
namespace Go.Proofs.YtmehbpjpbbhohaaGreatDoor
open Go Go.Eng Go.RowKit
attribute [local irreducible] wpListIn Code.wpIn Oper.wpIn Exit.then Exit.inBlock Exit.noGoto
set_option maxHeartbeats 40000000
set_option maxRecDepth 100000 in
theorem encValidG_ok {a b c d:Int}{w:World}(q1:Q9 a b)(q2:Q9 c d)(ht:Tb w):
    CL 107 #[IV a b c d] w (Ret w λv w'=>v=.bool (decide (cmpI (a*d) (c*b)<=0))):=by
 have e1:((qR a b).1,(qR a b).2)=qR a b:=rfl;have e2:((qR c d).1,(qR c d).2)=qR c d:=rfl;refine f_in Tryz.func107 rfl ?_;refine go ?_;refine bx (λ_ aoo r8=>?_);have sc:=aoo.2;refine go ?_;refine cl en82 (cB (rValid_ok _ _ _ (ht.ext sc)) (okL e1 q1)) ?_;rintro _ _ aol rfl;have⟨r8,sc⟩:=be1 aol.2 r8 sc;refine go ?_;refine cl en82 (cB (rValid_ok _ _ _ (ht.ext sc)) (okL e2 q2)) ?_;rintro _ _ aom rfl;have⟨r8,sc⟩:=be1 aom.2 r8 sc;refine go ?_;refine cl en49 (qCmpX q1 q2 (ht.ext sc)) ?_;rintro _ _ aon rfl;have sc:=xt sc aon.2;refine go ?_;exact f_ret1 (t:=2) (v:=.bool (decide ((cmpI (a*d) (c*b))<=0))) rfl sc rfl rfl
end Go.Proofs.YtmehbpjpbbhohaaGreatDoor
