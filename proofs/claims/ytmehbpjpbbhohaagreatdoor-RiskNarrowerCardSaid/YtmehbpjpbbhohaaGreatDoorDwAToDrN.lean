/- Part of the proof of a statement about risks. -/
import Derived.Test.YtmehbpjpbbhohaaGreatDoorDrW
import Derived.Test.YtmehbpjpbbhohaaGreatDoorDwT1
import Derived.Test.YtmehbpjpbbhohaaGreatDoorDwT2
import Derived.Test.YtmehbpjpbbhohaaGreatDoorDwT3
import Derived.Test.YtmehbpjpbbhohaaGreatDoorDwT4
import Derived.Test.YtmehbpjpbbhohaaGreatDoorDwT5
import Derived.Test.YtmehbpjpbbhohaaGreatDoorDwT6
import Derived.Test.YtmehbpjpbbhohaaGreatDoorDwT7
import Derived.Test.YtmehbpjpbbhohaaGreatDoorDwT8
import Derived.Test.YtmehbpjpbbhohaaGreatDoorDwT9
import Derived.Test.YtmehbpjpbbhohaaGreatDoorDwT10
import Derived.Test.YtmehbpjpbbhohaaGreatDoorDwT11
import Derived.Test.YtmehbpjpbbhohaaGreatDoorDwT12
import Derived.Test.YtmehbpjpbbhohaaGreatDoorDwT13
import Derived.Test.YtmehbpjpbbhohaaGreatDoorDwT14
import Derived.Test.YtmehbpjpbbhohaaGreatDoorDrAToRjg
import Derived.Test.YtmehbpjpbbhohaaGreatDoorEngPToEngH
import Derived.Test.YtmehbpjpbbhohaaGreatDoorRjiToDrV
import Derived.Test.YtmehbpjpbbhohaaGreatDoorRef4ToDrF
set_option linter.all false
namespace Go.Proofs.YtmehbpjpbbhohaaGreatDoor
open Go Go.Eng Go.RowKit
theorem dw_all (S:Nat)(h1:1<=S)(h2:S<=20):∃v,VoW (4*S) v:=by
  rcases(by omega:S=1∨S=2∨S=3∨S=4∨S=5∨S=6∨S=7∨S=8∨S=9∨S=10∨S=11∨S=12∨S=13∨S=14∨S=15∨S=16∨S=17∨S=18∨S=19∨S=20)with rfl|rfl|rfl|rfl|rfl|rfl|rfl|rfl|rfl|rfl|rfl|rfl|rfl|rfl|rfl|rfl|rfl|rfl|rfl|rfl
  · exact dw4.voW dc dc dc
  · exact dw8.voW dc dc dc
  · exact dw12.voW dc dc dc
  · exact dw16.voW dc dc dc
  · exact dw20.voW dc dc dc
  · exact dw24.voW dc dc dc
  · exact dw28.voW dc dc dc
  · exact dw32.voW dc dc dc
  · exact dw36.voW dc dc dc
  · exact dw40.voW dc dc dc
  · exact dw44.voW dc dc dc
  · exact dw48.voW dc dc dc
  · exact dw52.voW dc dc dc
  · exact dw56.voW dc dc dc
  · exact dw60.voW dc dc dc
  · exact dw64.voW dc dc dc
  · exact dw68.voW dc dc dc
  · exact dw72.voW dc dc dc
  · exact dw76.voW dc dc dc
  · exact dw80.voW dc dc dc
end Go.Proofs.YtmehbpjpbbhohaaGreatDoor
namespace Go.Proofs.YtmehbpjpbbhohaaGreatDoor
open Go Go.Eng Go.RowKit
attribute [local irreducible] wpListIn Code.wpIn Oper.wpIn Exit.then Exit.inBlock Exit.noGoto
set_option maxHeartbeats 40000000
theorem krRjn {p:Prop}(h:p:=by kernel_rfl):p:=h
set_option maxRecDepth 100000 in
theorem narrower_walk {x0 x1 x2 x3 x4 x5 x6 y0 y1 y2 m s e l h lo up p k q u wd sm vaa vba waa wba vab vbb wab wbb vac vbc wac wbc vad vbd wad wbd vaf vbf waf wbf vag vbg wag wbg:Int}{n:Nat}{w:World}(hy0:In64 y0)(hy1:In64 y1)(hy2:In64 y2)(ep:pickI y0 4=p)(ek:pickI y1 9=k)(eq:pickI y2 81=q)(p0:0<=p∧p<4)(k0:0<=k∧k<9)(q0:0<=q∧q<81)(hn:1+p=(n:Int))(hu:q-40=u)(lo0:-64<=lo)(lo1:lo<up)(up1:up<=184)(hwd:up-lo=wd)(hsm:wd*k=sm)(s0:0<=sm∧sm<=2000)(qvab:Q9 vab vbb)(qvac:Q9 vac vbc)(qvag:Q9 vag vbg)(qwaa:Q9 waa wba)(qwad:Q9 wad wbd)(qwaf:Q9 waf wbf)(hLa:cmpI (vab*wba) (waa*vbb)<=0)(hLb:cmpI (vac*wbd) (wad*vbc)<=0)(hLc:cmpI (vag*wbf) (waf*vbg)<=0)(hSa:∀W,Tb W->CL 8 #[] W (Ret W λv _=>v=.bool (true)))(hMd:∀W,Tb W->CL 9 #[.agg #[.int .i64 (x0),.int .i64 (x1),.int .i64 (x2),.int .i64 (x3),.int .i64 (x4),.int .i64 (x5),.int .i64 (x6)]] W (Ret W λv _=>v=.agg (t7 m 10 s 10 e 20 l 10 h 10 lo 20 up 20)))(hCt:∀W,Tb W->CL 14 #[.agg (t7 m 10 s 10 e 20 l 10 h 10 lo 20 up 20),.int .i64 n,.int .i64 (3)] W (Ret W λv _=>v=.tuple #[IV vaa vba waa wba,.int .i64 (0)]))(hCu:∀W,Tb W->CL 14 #[.agg (t7 m 10 s 10 e 20 l 10 h 10 (20*lo+sm) 400 (20*up-sm) 400),.int .i64 n,.int .i64 (3)] W (Ret W λv _=>v=.tuple #[IV vab vbb wab wbb,.int .i64 (0)]))(hPt:∀W,Tb W->CL 15 #[.agg (t7 m 10 s 10 e 20 l 10 h 10 lo 20 up 20),.int .i64 n,.int .i64 (3)] W (Ret W λv _=>v=.tuple #[IV vac vbc wac wbc,.int .i64 (0)]))(hPu:∀W,Tb W->CL 15 #[.agg (t7 m 10 s 10 e 20 l 10 h 10 (20*lo+sm) 400 (20*up-sm) 400),.int .i64 n,.int .i64 (3)] W (Ret W λv _=>v=.tuple #[IV vad vbd wad wbd,.int .i64 (0)]))(hAt:∀W,Tb W->CL 20 #[.agg (t7 m 10 s 10 e 20 l 10 h 10 lo 20 up 20),QV u 10,.int .i64 (5)] W (Ret W λv _=>v=.tuple #[IV vaf vbf waf wbf,.int .i64 (0)]))(hAu:∀W,Tb W->CL 20 #[.agg (t7 m 10 s 10 e 20 l 10 h 10 (20*lo+sm) 400 (20*up-sm) 400),QV u 10,.int .i64 (5)] W (Ret W λv _=>v=.tuple #[IV vag vbg wag wbg,.int .i64 (0)]))(ht:Tb w):
    CL 4 #[.agg #[.int .i64 x0,.int .i64 x1,.int .i64 x2,.int .i64 x3,.int .i64 x4,.int .i64 x5,.int .i64 x6],.int .i64 y0,.int .i64 y1,.int .i64 y2] w (Ret w λv w'=>v=.bool true):=by
 refine f_in Tryz.func4 rfl ?_;refine go ?_;refine bx (λ_ ari aox=>?_);have aov:=ari.2;refine go ?_;refine cl en3008 ((hSa _ (ht.ext aov))) ?_;rintro _ _ aqv rfl;have⟨aox,aov⟩:=be1 aqv.2 aox aov;refine go ?_;refine l_op (k_loadA (cs:=[.int .i64 x0,.int .i64 x1,.int .i64 x2,.int .i64 x3,.int .i64 x4,.int .i64 x5,.int .i64 x6]) (b:=w.heap.size) (o:=0) U2022 rfl sz2022 rfl (Blk.cells aox (i:=0) rfl) ?_);refine cl en3009 ((hMd _ (ht.ext aov))) ?_;rintro _ ao3 aqw rfl;have⟨aox,aov⟩:=be1 aqw.2 aox aov;refine al inf2296 (λ_ aqx arj=>?_);have⟨aox,aov⟩:=be1 aqx.2 aox aov;refine l_op (k_storeA (b:=ao3.heap.size) (o:=0) (vs:=[S (qR m 10).1,S (qR m 10).2,S (qR s 10).1,S (qR s 10).2,S (qR e 20).1,S (qR e 20).2,S (qR l 10).1,S (qR l 10).2,S (qR h 10).1,S (qR h 10).2,S (qR lo 20).1,S (qR lo 20).2,S (qR up 20).1,S (qR up 20).2]) sz2296 rfl rfl (by simp[Value.oneCell',S]) arj (Nat.le_of_ble_eq_true rfl) (λ_ aqb ao7=>?_));have ao7:=Blk.cst ao7 (cs:=(t7 m 10 s 10 e 20 l 10 h 10 lo 20 up 20)) krRjn;have⟨aox,aov,_⟩:=pl1 aqb aox aov;refine go ?_;refine clb en3010 (hc:=cEqZ (pickL15_ok y0 4 _ hy0 om) ep) (hk:=?_);rintro _ _ aqc rfl;have⟨aox,ao7,aov⟩:=be2 aqc.2 aox ao7 aov;refine l_op (k_add (a:=1) (b:=p) (c:=(n:Int)) rfl rfl (by unfold In64;omega) hn ?_);refine go ?_
 refine l_op (k_fieldAddr (b:=ao3.heap.size) (o:=0) (off:=12) (oo:=12) U2296 rfl rfl sz36 rfl rfl ?_);refine go ?_;refine l_op (k_fieldAddr (b:=ao3.heap.size) (o:=0) (off:=10) (oo:=10) U2296 rfl rfl sz36 rfl rfl ?_);refine go ?_;refine clb en220 (hc:=cEq (Y:=.tuple #[QV wd 20,.int .i64 0]) (qSubX (q9_12 om dc dc) (q9_12 om dc dc) (ht.ext aov)) (congrArg (λr:R=>Value.tuple #[.agg #[S r.1,S r.2],.int .i64 0]) (qR_congr dc dc om))) (hk:=?_);rintro _ _ aqd rfl;have⟨aox,ao7,aov⟩:=be2 aqd.2 aox ao7 aov;refine go ?_;refine al inf36 (λ_ aqe ark=>?_);have⟨aox,ao7,aov⟩:=be2 aqe.2 aox ao7 aov;refine SA ark (λarl ap8 aqz=>?_);have⟨aox,ao7,aov,_⟩:=pl2 ap8 aox ao7 aov;refine go ?_;refine c_dv hmix 10 [14,49,50,51,52,53,54,55,56] [some (50,QV wd 20),some (51,.int .i64 y1),some (52,.int .i64 k),some (53,QV k 20),some (54,.tuple #[QV sm 400,.int .i64 0]),some (49,.tuple #[QV sm 400,.int .i64 0]),some (55,QV sm 400),some (56,.int .i64 0),none,none] (XA arl 8 9 14 25 #[S ([]),S ([])] #[S (qR sm 400).1,S (qR sm 400).2]) XA.start krRjn krRjn krRjn ?_ ?_;refine⟨λate _ _ arm _ aq0 _ _ _=>?_,?_⟩;obtain⟨ate,rfl⟩:=ovE arm;have arn:=(be aq0.1 aqz);refine go ?_;exact dvA rfl aq0 (Ext.refl _);refine⟨λatl _ _ aro _ arp _ _ _=>?_,?_⟩;obtain⟨atl,rfl⟩:=ovE aro;refine go ?_;exact dvA rfl arp (Ext.refl _)
 refine⟨λarq _ _ atv arr aq1 _ _ _=>?_,?_⟩;obtain⟨arq,rfl⟩:=ovE atv;have ars:=zpv (arr 1 _ _ rfl rfl);refine clb en3010 (hc:=cEqZ (pickL15_ok y1 9 _ hy1 om) ek) (hk:=?_) (hv:=cons_eq ars (cons_eq rfl rfl));rintro _ _ aq3 rfl;refine go ?_;exact dvA rfl aq1 aq3.2;refine⟨λart _ _ at3 aru aq4 _ _ _=>?_,?_⟩;obtain⟨art,rfl⟩:=ovE at3;have arv:=zpv (aru 2 _ _ rfl rfl);have aqf:=xt aov aq4.1;refine clb en3011 (hc:=lfof_ok (by unfold In64;omega) (by unfold In64;decide) dc (ht.ext aqf)) (hk:=?_) (hv:=cons_eq arv (cons_eq rfl rfl));rintro _ _ aq5 rfl;refine go ?_;exact dvA rfl aq4 aq5.2;refine⟨λaq6 _ _ auc aq7 aq8 _ _ _=>?_,?_⟩;obtain⟨aq6,rfl⟩:=ovE auc;have arw:=zpv (aq7 0 _ _ rfl rfl);have arx:=zpv (aq7 3 _ _ rfl rfl);have aqg:=xt aov aq8.1;refine clb en219 (hc:=cEq (Y:=.tuple #[QV sm 400,.int .i64 0]) (qMulX (q9_12 om dc dc) (q9_12 om dc dc) (ht.ext aqg)) (congrArg (λr:R=>Value.tuple #[.agg #[S r.1,S r.2],.int .i64 0]) (qR_congr dc dc om))) (hk:=?_) (hv:=cons_eq arw (cons_eq arx rfl));rintro _ _ aq9 rfl;refine go ?_;exact dvA rfl aq8 aq9.2;refine⟨λary _ _ auk arz ar0 _ _ _=>?_,?_⟩;obtain⟨ary,rfl⟩:=ovE auk;have ar1:=zpv (arz 4 _ _ rfl rfl);refine go ?_;exact dvA rfl ar0 (Ext.refl _);refine⟨λar2 _ _ auq ar3 ar4 _ _ _=>?_,?_⟩;obtain⟨ar2,rfl⟩:=ovE auq;have ar5:=zpv (ar3 5 _ _ rfl rfl);refine go ?_;exact dvA rfl ar4 (Ext.refl _)
 refine⟨λar6 _ _ auw ar7 ar8 _ _ _=>?_,?_⟩;obtain⟨ar6,rfl⟩:=ovE auw;have ar9:=zpv (ar7 5 _ _ rfl rfl);refine go ?_;exact dvA rfl ar8 (Ext.refl _);refine⟨λau0 _ _ au3 _ ara asa asb _=>?_,?_⟩;obtain⟨au0,rfl⟩:=ovE au3;have aqh:=xt aov ara.1;have au6:=bz aqh;refine al inf36 (λ_ arb asc=>?_);refine go ?_;exact dvAa rfl ara (unl asa (i:=8) (j:=9) rfl asb) arb.2 asc;refine⟨λasd _ _ ava ase aqi _ asf asg=>?_,?_⟩;obtain⟨asd,rfl⟩:=ovE ava;have ash:=zpv (ase 6 _ _ rfl rfl);have aqj:=xt aov aqi.1;have avc:=bz aqj;obtain⟨_,ap9,asj,ask⟩:=XA.opn aqi (asg 8 rfl) asf;have ap9:=zpv ap9;have avd:=bz aov;refine SA ask (λ_ aqk asl=>?_);have avf:=psz aqk;refine go ?_;exact dvAs (.inr rfl) aqi ap9 asj aqk asl;exact trivial;intro apw apq _ arc ap6 asm ap1;obtain⟨apw,rfl⟩:=ovE ap6;have aom:=(be ap1.1 aox);have avh:=bt aom;have sc:=(be ap1.1 ao7);have avi:=bt sc;have aon:=(be ap1.1 aqz);have avj:=bt aon;have r8:=xt aov ap1.1;have avk:=bz r8;have avl:=bz ap1.1;obtain⟨aql,aqm,_,aol⟩:=XA.fin ap1 (arc 8 rfl) (.inl (arc 9 rfl));have aqm:=zpv aqm;have avn:=bt aol;have aso:=zpv (asm 7 _ _ rfl rfl);refine go ?_
 refine l_op (k_loadA (cs:=[S (qR m 10).1,S (qR m 10).2,S (qR s 10).1,S (qR s 10).2,S (qR e 20).1,S (qR e 20).2,S (qR l 10).1,S (qR l 10).2,S (qR h 10).1,S (qR h 10).2,S (qR lo 20).1,S (qR lo 20).2,S (qR up 20).1,S (qR up 20).2]) (b:=ao3.heap.size) (o:=0) U2296 rfl sz2296 rfl (Blk.cells sc (i:=0) krRjn) ?_);refine al inf2296 (λ_ ap7 asp=>?_);have⟨aom,sc,aon,aol,r8⟩:=be4 ap7.2 aom sc aon aol r8;refine l_op (k_storeA (b:=apq.heap.size) (o:=0) (vs:=[S (qR m 10).1,S (qR m 10).2,S (qR s 10).1,S (qR s 10).2,S (qR e 20).1,S (qR e 20).2,S (qR l 10).1,S (qR l 10).2,S (qR h 10).1,S (qR h 10).2,S (qR lo 20).1,S (qR lo 20).2,S (qR up 20).1,S (qR up 20).2]) sz2296 rfl rfl (by simp[Value.oneCell',S]) asp (Nat.le_of_ble_eq_true rfl) (λ_ ap3 aoy=>?_));have aoy:=Blk.cst aoy (cs:=(t7 m 10 s 10 e 20 l 10 h 10 lo 20 up 20)) krRjn;have⟨aom,sc,aon,aol,r8,_⟩:=pl4 ap3 aom sc aon aol r8;refine go ?_;refine l_op (k_fieldAddr (b:=ao3.heap.size) (o:=0) (off:=10) (oo:=10) U2296 rfl rfl sz36 rfl rfl ?_);refine go ?_;have ard:apw 14=pT aql:=(aqm);refine go ?_;refine clb en217 (hc:=cEq (Y:=.tuple #[QV (20*lo+sm) 400,.int .i64 0]) (qAddX (q9_12 om dc dc) (q9_12 om dc dc) (ht.ext r8)) (congrArg (λr:R=>Value.tuple #[.agg #[S r.1,S r.2],.int .i64 0]) (qR_congr dc dc om))) (hk:=?_);rintro _ _ ap4 rfl
 have⟨aom,sc,aon,aol,aoy,r8⟩:=be5 ap4.2 aom sc aon aol aoy r8;refine go ?_;refine al inf36 (λ_ ap5 asq=>?_);have⟨aom,sc,aon,aol,aoy,r8⟩:=be5 ap5.2 aom sc aon aol aoy r8;refine SA asq (λ_ apx aoo=>?_);have⟨aom,sc,aon,aol,aoy,r8,_⟩:=pl5 apx aom sc aon aol aoy r8;refine go ?_;refine l_op (k_fieldAddr (b:=ao3.heap.size) (o:=0) (off:=12) (oo:=12) U2296 rfl rfl sz36 rfl rfl ?_);refine go ?_;refine clb en220 (hc:=cEq (Y:=.tuple #[QV (20*up-sm) 400,.int .i64 0]) (qSubX (q9_12 om dc dc) (q9_12 om dc dc) (ht.ext r8)) (congrArg (λr:R=>Value.tuple #[.agg #[S r.1,S r.2],.int .i64 0]) (qR_congr dc dc om))) (hk:=?_);rintro _ _ apy rfl;have⟨aom,sc,aon,aol,aoy⟩:=bf5 apy.2 aom sc aon aol aoy;have⟨aoo,r8⟩:=be1 apy.2 aoo r8;refine go ?_;refine al inf36 (λ_ apz asr=>?_);have⟨aom,sc,aon,aol,aoy⟩:=bf5 apz.2 aom sc aon aol aoy;have⟨aoo,r8⟩:=be1 apz.2 aoo r8;refine SA asr (λ_ apr aop=>?_);have⟨aom,sc,aon,aol,aoy⟩:=pf5 apr aom sc aon aol aoy;have⟨aoo,r8,_⟩:=pl1 apr aoo r8;refine go ?_;refine l_op (k_fieldAddr (b:=apq.heap.size) (o:=0) (off:=10) (oo:=10) U2296 rfl rfl sz36 rfl rfl ?_);refine SA aoy (λ_ aps aqn=>?_);have aqn:=Blk.cst aqn (cs:=(t7 m 10 s 10 e 20 l 10 h 10 (20*lo+sm) 400 up 20)) krRjn;have⟨aom,sc,aon,aol,aoo⟩:=pf5 aps aom sc aon aol aoo;have⟨aop,r8,_⟩:=pl1 aps aop r8;refine go ?_
 refine l_op (k_fieldAddr (b:=apq.heap.size) (o:=0) (off:=12) (oo:=12) U2296 rfl rfl sz36 rfl rfl ?_);refine SA aqn (λ_ apt aoq=>?_);have aoq:=Blk.cst aoq (cs:=(t7 m 10 s 10 e 20 l 10 h 10 (20*lo+sm) 400 (20*up-sm) 400)) krRjn;have⟨aom,sc,aon,aol,aoo⟩:=pf5 apt aom sc aon aol aoo;have⟨aop,r8,_⟩:=pl1 apt aop r8;refine go ?_;refine l_op (k_loadA (cs:=[S (qR m 10).1,S (qR m 10).2,S (qR s 10).1,S (qR s 10).2,S (qR e 20).1,S (qR e 20).2,S (qR l 10).1,S (qR l 10).2,S (qR h 10).1,S (qR h 10).2,S (qR lo 20).1,S (qR lo 20).2,S (qR up 20).1,S (qR up 20).2]) (b:=ao3.heap.size) (o:=0) U2296 rfl sz2296 rfl (Blk.cells sc (i:=0) krRjn) ?_);refine go ?_;refine cl en3014 ((hCt _ (ht.ext r8))) ?_;rintro _ _ apu rfl;have⟨aom,sc,aon,aol,aoq⟩:=bf5 apu.2 aom sc aon aol aoq;have⟨aoo,aop,r8⟩:=be2 apu.2 aoo aop r8;refine go ?_;refine al inf1032 (λ_ apv ass=>?_);have⟨aom,sc,aon,aol,aoq⟩:=bf5 apv.2 aom sc aon aol aoq;have⟨aoo,aop,r8⟩:=be2 apv.2 aoo aop r8;refine SA ass (λ_ apm aor=>?_);have⟨aom,sc,aon,aol,aoq⟩:=pf5 apm aom sc aon aol aoq;have⟨aoo,aop,r8,_⟩:=pl2 apm aoo aop r8;refine go ?_
 refine l_op (k_loadA (cs:=[S (qR m 10).1,S (qR m 10).2,S (qR s 10).1,S (qR s 10).2,S (qR e 20).1,S (qR e 20).2,S (qR l 10).1,S (qR l 10).2,S (qR h 10).1,S (qR h 10).2,S ((qR (20*lo+sm) 400).1),S ((qR (20*lo+sm) 400).2),S ((qR (20*up-sm) 400).1),S ((qR (20*up-sm) 400).2)]) (b:=apq.heap.size) (o:=0) U2296 rfl sz2296 rfl (Blk.cells aoq (i:=0) krRjn) ?_);refine go ?_;refine cl en3014 ((hCu _ (ht.ext r8))) ?_;rintro _ _ apn rfl;have⟨aom,sc,aon,aol,aoq⟩:=bf5 apn.2 aom sc aon aol aoq;have⟨aoo,aop,aor,r8⟩:=be3 apn.2 aoo aop aor r8;refine go ?_;refine al inf1032 (λ_ apo ast=>?_);have⟨aom,sc,aon,aol,aoq⟩:=bf5 apo.2 aom sc aon aol aoq;have⟨aoo,aop,aor,r8⟩:=be3 apo.2 aoo aop aor r8;refine SA ast (λ_ apj aos=>?_);have⟨aom,sc,aon,aol,aoq⟩:=pf5 apj aom sc aon aol aoq;have⟨aoo,aop,aor,r8,_⟩:=pl3 apj aoo aop aor r8;refine go ?_;refine l_op (k_loadA (cs:=[S (qR m 10).1,S (qR m 10).2,S (qR s 10).1,S (qR s 10).2,S (qR e 20).1,S (qR e 20).2,S (qR l 10).1,S (qR l 10).2,S (qR h 10).1,S (qR h 10).2,S (qR lo 20).1,S (qR lo 20).2,S (qR up 20).1,S (qR up 20).2]) (b:=ao3.heap.size) (o:=0) U2296 rfl sz2296 rfl (Blk.cells sc (i:=0) krRjn) ?_);refine go ?_;refine cl en3015 ((hPt _ (ht.ext r8))) ?_;rintro _ _ apk rfl;have⟨aom,sc,aon,aol,aoq⟩:=bf5 apk.2 aom sc aon aol aoq;have⟨aoo,aop,aor,aos,r8⟩:=be4 apk.2 aoo aop aor aos r8;refine go ?_
 refine al inf1032 (λ_ apl asu=>?_);have⟨aom,sc,aon,aol,aoq⟩:=bf5 apl.2 aom sc aon aol aoq;have⟨aoo,aop,aor,aos,r8⟩:=be4 apl.2 aoo aop aor aos r8;refine SA asu (λ_ apg aot=>?_);have⟨aom,sc,aon,aol,aoq⟩:=pf5 apg aom sc aon aol aoq;have⟨aoo,aop,aor,aos,r8,_⟩:=pl4 apg aoo aop aor aos r8;refine go ?_;refine l_op (k_loadA (cs:=[S (qR m 10).1,S (qR m 10).2,S (qR s 10).1,S (qR s 10).2,S (qR e 20).1,S (qR e 20).2,S (qR l 10).1,S (qR l 10).2,S (qR h 10).1,S (qR h 10).2,S ((qR (20*lo+sm) 400).1),S ((qR (20*lo+sm) 400).2),S ((qR (20*up-sm) 400).1),S ((qR (20*up-sm) 400).2)]) (b:=apq.heap.size) (o:=0) U2296 rfl sz2296 rfl (Blk.cells aoq (i:=0) krRjn) ?_);refine go ?_;refine cl en3015 ((hPu _ (ht.ext r8))) ?_;rintro _ _ aph rfl;have⟨aom,sc,aon,aol,aoq⟩:=bf5 aph.2 aom sc aon aol aoq;have⟨aoo,aop,aor,aos,aot,r8⟩:=be5 aph.2 aoo aop aor aos aot r8;refine go ?_;refine al inf1032 (λ_ api asv=>?_);have⟨aom,sc,aon,aol,aoq⟩:=bf5 api.2 aom sc aon aol aoq;have⟨aoo,aop,aor,aos,aot,r8⟩:=be5 api.2 aoo aop aor aos aot r8;refine SA asv (λ_ apc aou=>?_);have⟨aom,sc,aon,aol,aoq⟩:=pf5 apc aom sc aon aol aoq;have⟨aoo,aop,aor,aos,aot,r8,_⟩:=pl5 apc aoo aop aor aos aot r8;refine go ?_;refine clb en3010 (hc:=cEqZ (pickL15_ok y2 81 _ hy2 om) eq) (hk:=?_);rintro _ _ apd rfl;have⟨aom,sc,aon,aol,aoq⟩:=bf5 apd.2 aom sc aon aol aoq;have⟨aoo,aop,aor,aos,aot⟩:=bf5 apd.2 aoo aop aor aos aot
 have⟨aou,r8⟩:=be1 apd.2 aou r8;refine l_op (k_sub (a:=q) (b:=40) (c:=u) rfl rfl (by unfold In64;omega) hu ?_);refine clb en3011 (hc:=lfof_ok (by unfold In64;omega) (by unfold In64;decide) dc (ht.ext r8)) (hk:=?_);rintro _ _ ape rfl;have⟨aom,sc,aon,aol,aoq⟩:=bf5 ape.2 aom sc aon aol aoq;have⟨aoo,aop,aor,aos,aot⟩:=bf5 ape.2 aoo aop aor aos aot;have⟨aou,r8⟩:=be1 ape.2 aou r8;refine al inf36 (λ_ apf asx=>?_);have⟨aom,sc,aon,aol,aoq⟩:=bf5 apf.2 aom sc aon aol aoq;have⟨aoo,aop,aor,aos,aot⟩:=bf5 apf.2 aoo aop aor aos aot;have⟨aou,r8⟩:=be1 apf.2 aou r8;refine SA asx (λ_ ao8 aow=>?_);have⟨aom,sc,aon,aol,aoq⟩:=pf5 ao8 aom sc aon aol aoq;have⟨aoo,aop,aor,aos,aot⟩:=pf5 ao8 aoo aop aor aos aot;have⟨aou,r8,_⟩:=pl1 ao8 aou r8;refine go ?_;refine l_op (k_loadA (cs:=[S (qR m 10).1,S (qR m 10).2,S (qR s 10).1,S (qR s 10).2,S (qR e 20).1,S (qR e 20).2,S (qR l 10).1,S (qR l 10).2,S (qR h 10).1,S (qR h 10).2,S (qR lo 20).1,S (qR lo 20).2,S (qR up 20).1,S (qR up 20).2]) (b:=ao3.heap.size) (o:=0) U2296 rfl sz2296 rfl (Blk.cells sc (i:=0) krRjn) ?_);refine go ?_;refine cl en3020 ((hAt _ (ht.ext r8))) ?_;rintro _ _ ao9 rfl;have⟨aom,sc,aon,aol,aoq⟩:=bf5 ao9.2 aom sc aon aol aoq;have⟨aoo,aop,aor,aos,aot⟩:=bf5 ao9.2 aoo aop aor aos aot;have⟨aou,aow,r8⟩:=be2 ao9.2 aou aow r8;refine go ?_;refine al inf1032 (λ_ apa asy=>?_);have⟨aom,sc,aon,aol,aoq⟩:=bf5 apa.2 aom sc aon aol aoq
 have⟨aoo,aop,aor,aos,aot⟩:=bf5 apa.2 aoo aop aor aos aot;have⟨aou,aow,r8⟩:=be2 apa.2 aou aow r8;refine SA asy (λ_ ao4 apb=>?_);have⟨aom,sc,aon,aol,aoq⟩:=pf5 ao4 aom sc aon aol aoq;have⟨aoo,aop,aor,aos,aot⟩:=pf5 ao4 aoo aop aor aos aot;have⟨aou,aow,r8,_⟩:=pl2 ao4 aou aow r8;refine go ?_;refine l_op (k_loadA (cs:=[S (qR m 10).1,S (qR m 10).2,S (qR s 10).1,S (qR s 10).2,S (qR e 20).1,S (qR e 20).2,S (qR l 10).1,S (qR l 10).2,S (qR h 10).1,S (qR h 10).2,S ((qR (20*lo+sm) 400).1),S ((qR (20*lo+sm) 400).2),S ((qR (20*up-sm) 400).1),S ((qR (20*up-sm) 400).2)]) (b:=apq.heap.size) (o:=0) U2296 rfl sz2296 rfl (Blk.cells aoq (i:=0) krRjn) ?_);refine go ?_;refine cl en3020 ((hAu _ (ht.ext r8))) ?_;rintro _ _ ao5 rfl;have⟨aom,sc,aon,aol,aoq⟩:=bf5 ao5.2 aom sc aon aol aoq;have⟨aoo,aop,aor,aos,aot⟩:=bf5 ao5.2 aoo aop aor aos aot;have⟨aou,aow,apb,r8⟩:=be3 ao5.2 aou aow apb r8;refine go ?_;refine al inf1032 (λ_ ao6 asz=>?_);have⟨aom,sc,aon,aol,aoq⟩:=bf5 ao6.2 aom sc aon aol aoq;have⟨aoo,aop,aor,aos,aot⟩:=bf5 ao6.2 aoo aop aor aos aot;have⟨aou,aow,apb,r8⟩:=be3 ao6.2 aou aow apb r8;refine SA asz (λ_ aoz ap0=>?_);have⟨aom,sc,aon,aol,aoq⟩:=pf5 aoz aom sc aon aol aoq;have⟨aoo,aop,aor,aos,aot⟩:=pf5 aoz aoo aop aor aos aot;have⟨aou,aow,apb,r8,_⟩:=pl3 aoz aou aow apb r8;refine go ?_;refine cl en49 (qCmpX qvab qwaa (ht.ext r8)) ?_;rintro _ _ ao0 rfl
 have⟨aot,aou,apb,ap0,r8⟩:=be4 ao0.2 aot aou apb ap0 r8;refine go ?_;refine cl en49 (qCmpX qvac qwad (ht.ext r8)) ?_;rintro _ _ ao1 rfl;have⟨apb,ap0,r8⟩:=be2 ao1.2 apb ap0 r8;refine go ?_;refine cl en49 (qCmpX qvag qwaf (ht.ext r8)) ?_;rintro _ _ ao2 rfl;have r8:=xt r8 ao2.2;refine go ?_;exact f_ret1 (t:=8) (v:=.bool (decide ((cmpI (vag*wbf) (waf*vbg))<=0))) rfl r8 (congrArg Value.bool (decide_eq_true hLc)) rfl
end Go.Proofs.YtmehbpjpbbhohaaGreatDoor
namespace Go.Proofs.YtmehbpjpbbhohaaGreatDoor
open Go Go.Eng Go.RowKit
theorem le_of_tenW {f c lo hi:Int}{k:Nat}(h1:f*tenI k<=lo)(h2:lo<=hi)(h3:hi<=c*tenI k):f<=c:=by
  refine Int.le_of_mul_le_mul_right (a:=tenI k) ?_ (ten_pos k)
  omega
theorem Fc.leW {S pl:Nat}{v F C:Int->Int}{K L:Int}(h:Fc S pl v F C)(hv:VoW S v)(hKL:K<=L):F K<=C L:=le_of_tenW (h.lo K) (hv.mono K L hKL) (h.hi L)
section
variable {s s':Sd}{T X Y:Int}{E E':Nat->Int}{L H:Int}{n:Nat}
theorem nar_bW (h:s.Ok T)(h':s'.Ok T)(hu:∀X,s'.fu X<=s.cu X)(hl:∀X,s.fl X<=s'.cl X):s'.bL X Y<=s.bH X Y:=by
  have h1:s'.chL X<=s.chH X:=by
    have:=hu X
    have:=hl X
    unfold Sd.chL Sd.chH;omega
  unfold Sd.bL Sd.bH
  split <;>omega
theorem con_narW (h:s.Ok T)(h':s'.Ok T)(ef:s'.f=s.f)(ec:s'.c=s.c)(hu:∀X,s'.fu X<=s.cu X)(hl:∀X,s.fl X<=s'.cl X):s'.conL E L H n<=s.conH E L H n:=by
  have t:∀X Y,s'.tcL X Y<=s.tcH X Y:=by
    intro X Y
    have h1:=h.mm (X:=X) (Y:=Y)
    have h2:=h'.b (X:=X) (Y:=Y)
    unfold Sd.tcL Sd.tcH
    rw[ef,ec]
    split
    · exact Int.mul_le_mul h1.2.1 (nar_bW h h' hu hl) h2.1 om
    · omega
  exact sumI_le λi _=>by
    have:=t (E i) (min (E (i+1)) L)
    have:=t (max (E i) H) (E (i+1))
    omega
theorem pro_narW (h:s.Ok T)(h':s'.Ok T)(ef:s'.f=s.f)(ec:s'.c=s.c)(hu:∀X,s'.fu X<=s.cu X)(hl:∀X,s.fl X<=s'.cl X):s.proL T E L H n<=s'.proH T E L H n:=by
  refine sumI_le λi _=>?_
  have h1:=h.mm (X:=max (E i) L) (Y:=min (E (i+1)) H)
  have h2:=h'.b (X:=max (E i) L) (Y:=min (E (i+1)) H)
  have h3:=nar_bW h h' hu hl (X:=max (E i) L) (Y:=min (E (i+1)) H)
  unfold Sd.tpL Sd.tpH
  rw[ef,ec]
  split
  · exact Int.mul_le_mul h1.2.1 om om om
  · omega
end
theorem tsh_w {s e pl:Nat}{v v' F C G D:Int->Int}{M L H O U:Int}(hF:Fc (4*s) pl v F C)(hG:Fc (4*e) pl v' G D)(p1:1<=pl)(p5:pl<=5)(hs:1<=s)(he:1<=e)(t:Tst M (40*s) (20*e) L H O U):Tsh pl F C G D 1 0 400 M (40*s) (20*e) L H O U:=
  ⟨⟨by decide,by decide,by decide,by decide,by decide,by decide⟩,t,λK=>(hF.sh K).congr om om (by rw[show((5*(4*s):Nat):Int)=20*(s:Int)by omega];grind),λK=>(hG.sh K).congr om om (by rw[show((5*(4*e):Nat):Int)=20*(e:Int)by omega]),p1,p5⟩
theorem riskNarrower_law {x0 x1 x2 x3 x4 x5 x6 y0 y1 y2:Int}{w:World}(hx0:In64 x0)(hx1:In64 x1)(hx2:In64 x2)(hx3:In64 x3)(hx4:In64 x4)(hx5:In64 x5)(hx6:In64 x6)(hy0:In64 y0)(hy1:In64 y1)(hy2:In64 y2)(ht:Tb w):
    CL 4 #[.agg #[.int .i64 x0,.int .i64 x1,.int .i64 x2,.int .i64 x3,.int .i64 x4,.int .i64 x5,.int .i64 x6],.int .i64 y0,.int .i64 y1,.int .i64 y2] w (Ret w λv _=>v=.bool true):=by
  obtain⟨m,s,e,l,h,lo,up,P,hMd⟩:=made_c hx0 hx1 hx2 hx3 hx4 hx5 hx6
  have p0:=pick_bd y0 4 dc
  have k0:=pick_bd y1 9 dc
  have q0:=pick_bd y2 81 dc
  generalize hp:pickI y0 4=p at p0
  generalize hk:pickI y1 9=k at k0
  generalize hq:pickI y2 81=q at q0
  obtain⟨n,hn⟩:∃n:Nat,1+p=n:=⟨(1+p).toNat,by omega⟩
  obtain⟨d,hd,d0⟩:∃d:Int,d*(n:Int)=240∧0<=d:=by
    rcases(by omega:n=1∨n=2∨n=3∨n=4)with rfl|rfl|rfl|rfl
    · exact⟨240,by decide,by decide⟩
    · exact⟨120,by decide,by decide⟩
    · exact⟨80,by decide,by decide⟩
    · exact⟨60,by decide,by decide⟩
  obtain⟨u,hu⟩:∃u,q-40=u:=⟨_,rfl⟩
  obtain⟨_,_,a3,a4,a5,a6,_,_,_,_,b2,b3,b4,_⟩:=P
  obtain⟨wd,hwd⟩:∃wd,up-lo=wd:=⟨_,rfl⟩
  obtain⟨sm,hsm⟩:∃sm,wd*k=sm:=⟨_,rfl⟩
  have s0:0<=sm∧sm<=2000∧sm<=wd*8:=by
    have h1:=Int.mul_nonneg (show 0<=wd by omega) k0.1
    have h2:=Int.mul_le_mul_of_nonneg_left (show k<=8 by omega) (show 0<=wd by omega)
    omega
  obtain⟨s,rfl,s1,s2⟩:=nat_of ⟨a3,a4⟩
  obtain⟨e,rfl,e1,e2⟩:=nat_of ⟨a5,a6⟩
  obtain⟨v,hv⟩:=dw_all s s1 s2
  obtain⟨_,hv'⟩:=dw_all e e1 e2
  obtain⟨F,C,hF⟩:=hv.fc (pl:=3) (.inl rfl)
  obtain⟨G,D,hG⟩:=hv'.fc (pl:=3) (.inl rfl)
  obtain⟨F5,C5,hF5⟩:=hv.fc (pl:=5) (.inr rfl)
  obtain⟨G5,D5,hG5⟩:=hv'.fc (pl:=5) (.inr rfl)
  have tt:Tst (40*m) (40*s) (20*e) (40*l) (40*h) (20*lo) (20*up):=⟨by omega,by omega,by omega,by omega,by omega,by omega,by omega,by omega⟩
  have tu:Tst (40*m) (40*s) (20*e) (40*l) (40*h) (20*lo+sm) (20*up-sm):=⟨by omega,by omega,by omega,by omega,by omega,by omega,by omega,by omega⟩
  have t3:=tsh_w hF hG dc dc s1 e1 tt
  have u3:=tsh_w hF hG dc dc s1 e1 tu
  have t5:=tsh_w hF5 hG5 dc dc s1 e1 tt
  have u5:=tsh_w hF5 hG5 dc dc s1 e1 tu
  have te:TSv 1 0 400 (40*m) (40*s) (20*e) (40*l) (40*h) (20*lo) (20*up)=_:=tsv_eq (ma:=m) (mb:=10) (sa:=s) (sb:=10) (ea:=e) (eb:=20) (la:=l) (lb:=10) (ha:=h) (hb:=10) (oa:=lo) (ob:=20) (ga:=up) (gb:=20) dc dc om om om om om om om
  have ue:TSv 1 0 400 (40*m) (40*s) (20*e) (40*l) (40*h) (20*lo+sm) (20*up-sm)=_:=tsv_eq (ma:=m) (mb:=10) (sa:=s) (sb:=10) (ea:=e) (eb:=20) (la:=l) (lb:=10) (ha:=h) (hb:=10) (oa:=20*lo+sm) (ob:=400) (ga:=20*up-sm) (gb:=400) dc dc om om om om om om om
  have T:=t12 (pl:=3) dc
  have TT:=Int.mul_pos T.2 T.2
  have hT:=Int.le_of_lt T.2
  have T5:=t12 (pl:=5) dc
  have hqn:d*s*(n:Int)=6*(40*s):=by rw[show d*s*(n:Int)=d*(n:Int)*s by grind,hd];omega
  have dq0:0<=d*(s:Int):=Int.mul_nonneg d0 om
  have hX:Pb (40*u):=by unfold Pb;omega
  have qv:QV (1*(40*u)+0) 400=QV u 10:=qv_congr dc dc om
  have hu3:∀X,(sdO F C G D (40*m) (20*lo+sm) (20*up-sm)).fu X<=(sdO F C G D (40*m) (20*lo) (20*up)).cu X:=λX=>hG.leW hv' om
  have hl3:∀X,(sdO F C G D (40*m) (20*lo) (20*up)).fl X<=(sdO F C G D (40*m) (20*lo+sm) (20*up-sm)).cl X:=λX=>hG.leW hv' om
  have n1:=con_narW (E:=En (40*m) (40*s) (d*s) n) (L:=40*l) (H:=40*h) (n:=n) t3.ok u3.ok rfl rfl hu3 hl3
  have n2:=pro_narW (E:=En (40*m) (40*s) (d*s) n) (L:=40*l) (H:=40*h) (n:=n) t3.ok u3.ok rfl rfl hu3 hl3
  have c1:=t3.ok.con (E:=En (40*m) (40*s) (d*s) n) (L:=40*l) (H:=40*h) (n:=n)
  have c2:=u3.ok.con (E:=En (40*m) (40*s) (d*s) n) (L:=40*l) (H:=40*h) (n:=n)
  have c3:=t3.ok.pro (E:=En (40*m) (40*s) (d*s) n) (L:=40*l) (H:=40*h) (n:=n)
  have c4:=u3.ok.pro (E:=En (40*m) (40*s) (d*s) n) (L:=40*l) (H:=40*h) (n:=n)
  have n4:(n:Int)*(2*1000000)<=8000000:=by omega
  have cb:=t3.ok.conB (E:=En (40*m) (40*s) (d*s) n) (L:=40*l) (H:=40*h) (n:=n)
  have cu:=u3.ok.conB (E:=En (40*m) (40*s) (d*s) n) (L:=40*l) (H:=40*h) (n:=n)
  rw[show tenI 3*tenI 3=1000000 by decide]at cb cu
  have cb':=And.intro (Int.le_trans cb.1 n4) (Int.le_trans cb.2 n4)
  have cu':=And.intro (Int.le_trans cu.1 n4) (Int.le_trans cu.2 n4)
  have r0:0<=rst F C (40*s) (tenI 3)∧rst F C (40*s) (tenI 3)<=3*10^10:=by
    have f1:=hF.bd (K:=-3*(40*s))
    have f2:=hF.bd (K:=3*(40*s))
    unfold rst
    have:=Int.mul_nonneg (show 0<=C (-3*(40*s))+tenI 3-F (3*(40*s))by omega) hT
    have:=mul_bd (a:=C (-3*(40*s))+tenI 3-F (3*(40*s))) (b:=tenI 3) (p:=3*10^5) (q:=10^5) om om
    omega
  have ch1:=t5.ok.ch (X:=40*u)
  have ch2:=u5.ok.ch (X:=40*u)
  have nc:(sdO F5 C5 G5 D5 (40*m) (20*lo+sm) (20*up-sm)).chL (40*u)<=(sdO F5 C5 G5 D5 (40*m) (20*lo) (20*up)).chH (40*u):=by
    show max 0 (G5 (20*up-sm-40*u)-D5 (20*lo+sm-40*u))<=max 0 (D5 (20*up-40*u)-G5 (20*lo-40*u))
    have g1:=hG5.leW hv' (show 20*up-sm-40*u<=20*up-40*u by omega)
    have g2:=hG5.leW hv' (show 20*lo-40*u<=20*lo+sm-40*u by omega)
    omega
  have aT:∀W,Tb W->_:=λW hW=>t5.accepted hX hW
  have aU:∀W,Tb W->_:=λW hW=>u5.accepted hX hW
  rw[qv]at aT aU
  exact narrower_walk hy0 hy1 hy2 hp hk hq p0 k0 q0 hn hu b2 b3 b4 hwd hsm ⟨s0.1,s0.2.1⟩
    (fc_q9 dc om).1 (fc_q9 dc om).1 (q9_T dc ⟨ch2.1,by omega⟩) (fc_q9 dc om).2 (fc_q9 dc om).2 (q9_T dc ⟨by omega,ch1.2.2⟩)
    (cmp_T1 T.2 (fl_cl TT hT om)) (cmp_T1 T.2 (fl_cl TT hT om)) (cmp_T1 T5.2 nc) sane_c (λW _=>hMd W)
    (λW hW=>cAv (l:=[.int .i64 ((n:Nat):Int),.int .i64 3]) (t3.consumer (n:=n) om om hqn dq0 hW) te) (λW hW=>cAv (l:=[.int .i64 ((n:Nat):Int),.int .i64 3]) (u3.consumer (n:=n) om om hqn dq0 hW) ue)
    (λW hW=>cAv (l:=[.int .i64 ((n:Nat):Int),.int .i64 3]) (t3.producer (n:=n) om om hqn dq0 hW) te) (λW hW=>cAv (l:=[.int .i64 ((n:Nat):Int),.int .i64 3]) (u3.producer (n:=n) om om hqn dq0 hW) ue)
    (λW hW=>cAv (l:=[QV u 10,.int .i64 5]) (aT W hW) te) (λW hW=>cAv (l:=[QV u 10,.int .i64 5]) (aU W hW) ue) ht
end Go.Proofs.YtmehbpjpbbhohaaGreatDoor
