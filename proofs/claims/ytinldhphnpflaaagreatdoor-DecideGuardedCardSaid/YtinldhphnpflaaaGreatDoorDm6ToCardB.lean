/- Part of the proof of a statement about decisions. -/
import Derived.Test.YtinldhphnpflaaaGreatDoorDl4ToDcN
import Derived.Test.YtinldhphnpflaaaGreatDoorEngPToEngH
import Derived.Test.YtinldhphnpflaaaGreatDoorRi6ToGuC
import Derived.Test.YtinldhphnpflaaaGreatDoorGuTA
import Derived.Test.YtinldhphnpflaaaGreatDoorDtKToRef1
import Derived.Test.YtinldhphnpflaaaGreatDoorTie
import Derived.Test.YtinldhphnpflaaaGreatDoorCards
import Derived.ProofKit
import Derived.OpenShut
import Derived.LaidMore
import Derived.Lay
import Derived.SevenTiedAt
import Derived.Stop.Joined
import Derived.Deep.SlicePairs
import Derived.Deep.Frames
import Derived.Deep.Onto
import Derived.WideKeyArgs
import Derived.SizedLaws
set_option linter.all false
namespace Go.Proofs.YtinldhphnpflaaaGreatDoor
open Go Go.Eng Go.RowKit
attribute [local irreducible] wpListIn Code.wpIn Oper.wpIn Exit.then Exit.inBlock Exit.noGoto
set_option maxHeartbeats 40000000
theorem krDm6 {p : Prop} (h : p:=by kernel_rfl) : p:=h
theorem erDm6 {w:World}:Ext w w:=Ext.refl _
set_option maxRecDepth 100000 in
theorem guarded_walk {kd la lb ha hb ga gb ra rb va vb sa sb : Int} {x0 x1 x2 x3 x4 x5 x6 : Int} {w : World} {y pa c v1 : Int} {ins : Bool} {pl : Nat} {hn hm pn pm ln lm zn zm dn dm un um vn vm qn qm sn sm rn rm an am en em : Int} (hy : In64 y) (hpl : 1 + pickI y 8 = (pl : Int)) (hpa : In64 pa) (hxd : In64 x4) (hv1 : ¬ 0 < c → 1 ≤ v1) (hvi : ¬ 0 < c → v1 = 2 → ins = false) (hSn : ∀ W, Tb W → CL 4 #[] W (Ret W fun v _ => v = .bool true)) (hMk : ∀ W, Tb W → CL 5 #[.agg #[.int .i64 (x0), .int .i64 (x1), .int .i64 (x2), .int .i64 (x3), .int .i64 (x4), .int .i64 (x5), .int .i64 (x6)]] W (Ret W fun v _ => v = .agg #[.int .i64 (kd), S ((qR la lb).1), S ((qR la lb).2), S ((qR ha hb).1), S ((qR ha hb).2), S ((qR ga gb).1), S ((qR ga gb).2), S ((qR ra rb).1), S ((qR ra rb).2), S ((qR va vb).1), S ((qR va vb).2), S ((qR sa sb).1), S ((qR sa sb).2)])) (hMa : ∀ W, Tb W → CL 8 #[QV (1 + pickI x4 100) 1000, QV 1 2] W (Ret W fun v _ => v = .tuple #[QV hn hm, .int .i64 0])) (hSa : ∀ W, Tb W → CL 9 #[QV 1 1, QV hn hm] W (Ret W fun v _ => v = .tuple #[QV pn pm, .int .i64 0])) (hMb : ∀ W, Tb W → CL 8 #[QV zn zm, QV sa sb] W (Ret W fun v _ => v = .tuple #[QV dn dm, .int .i64 0])) (hAa : ∀ W, Tb W → CL 11 #[QV la lb, QV dn dm] W (Ret W fun v _ => v = .tuple #[QV un um, .int .i64 0])) (hSb : ∀ W, Tb W → CL 9 #[QV ha hb, QV dn dm] W (Ret W fun v _ => v = .tuple #[QV vn vm, .int .i64 0])) (hSc : ∀ W, Tb W → CL 9 #[QV vn vm, QV un um] W (Ret W fun v _ => v = .tuple #[QV qn qm, .int .i64 0])) (hMc : ∀ W, Tb W → CL 8 #[QV qn qm, QV (pickI pa 11) 10] W (Ret W fun v _ => v = .tuple #[QV sn sm, .int .i64 0])) (hAb : ∀ W, Tb W → CL 11 #[QV un um, QV sn sm] W (Ret W fun v _ => v = .tuple #[QV rn rm, .int .i64 0])) (hQn : ∀ W, Tb W → CL 10 #[QV pn pm, .int .i64 (2)] W (Ret W fun v _ => v = .tuple #[IV ln lm zn zm, .int .i64 0])) (hCm : ∀ W, Tb W → CL 12 #[QV un um, QV vn vm] W (Ret W fun v _ => v = .int .i64 c)) (hAc : ∀ W, Tb W → CL 13 #[.agg #[.int .i64 (kd), S ((qR la lb).1), S ((qR la lb).2), S ((qR ha hb).1), S ((qR ha hb).2), S ((qR ga gb).1), S ((qR ga gb).2), S ((qR (1 + pickI x4 100) 1000).1), S ((qR (1 + pickI x4 100) 1000).2)]] W (Ret W fun v _ => v = .tuple #[IV an am en em, .int .i64 0])) (hCo : ∀ W, Tb W → CL 15 #[IV an am en em, QV rn rm] W (Ret W fun v _ => v = .bool ins)) (hV : ¬ 0 < c → ∀ W, Tb W → CL 14 #[.agg #[.int .i64 (kd), S ((qR la lb).1), S ((qR la lb).2), S ((qR ha hb).1), S ((qR ha hb).2), S ((qR ga gb).1), S ((qR ga gb).2), S ((qR (1 + pickI x4 100) 1000).1), S ((qR (1 + pickI x4 100) 1000).2), S ((qR rn rm).1), S ((qR rn rm).2), S ((qR sa sb).1), S ((qR sa sb).2)], .int .i64 pl] W (Ret W fun v _ => v = .int .i64 v1)) (ht : Tb w) :
    CL 3 #[.agg #[.int .i64 x0,.int .i64 x1,.int .i64 x2,.int .i64 x3,.int .i64 x4,.int .i64 x5,.int .i64 x6],.int .i64 y,.int .i64 pa] w (Ret w fun v w'=>v=.bool true):=by
 have bd:=pick_bd y 8 dc;have bd2:=pick_bd pa 11 dc;have bd3:=pick_bd x4 100 dc;refine f_in Tryz.func3 rfl ?_;refine go ?_;refine bx (fun _ asp aov=>?_);have aor:=asp.2;refine go ?_;refine cl en2008 ((hSn _ (ht.ext aor))) ?_;rintro _ _ aq9 rfl;have aov:=be aq9.2 aov;have aor:=xt aor aq9.2;refine go ?_;refine l_op (k_loadA (cs:=[.int .i64 x0,.int .i64 x1,.int .i64 x2,.int .i64 x3,.int .i64 x4,.int .i64 x5,.int .i64 x6]) (b:=w.heap.size) (o:=0) U2022 rfl sz2022 rfl (Blk.cells aov (i:=0) rfl) ?_);refine cl en2009 ((hMk _ (ht.ext aor))) ?_;rintro _ aop ara rfl;have aov:=be ara.2 aov;have aor:=xt aor ara.2;refine al inf2029 (fun _ arb asq=>?_);have aov:=be arb.2 aov;have aor:=xt aor arb.2;refine l_op (k_storeA (b:=aop.heap.size) (o:=0) (vs:=[.int .i64 kd,S (qR la lb).1,S (qR la lb).2,S (qR ha hb).1,S (qR ha hb).2,S (qR ga gb).1,S (qR ga gb).2,S (qR ra rb).1,S (qR ra rb).2,S (qR va vb).1,S (qR va vb).2,S (qR sa sb).1,S (qR sa sb).2]) sz2029 rfl rfl (by simp [Value.oneCell',S]) asq (Nat.le_of_ble_eq_true rfl) (fun _ aqg apk=>?_));have apk:=Blk.cst apk (cs:=#[.int .i64 kd,S (qR la lb).1,S (qR la lb).2,S (qR ha hb).1,S (qR ha hb).2,S (qR ga gb).1,S (qR ga gb).2,S (qR ra rb).1,S (qR ra rb).2,S (qR va vb).1,S (qR va vb).2,S (qR sa sb).1,S (qR sa sb).2]) krDm6
 have aov:=pb aqg aov;have aor:=plw aqg aor;have awi:=psz aqg;refine go ?_;refine clb en2010 (hc:=pickL16_ok y 8 _ hy dc) (hk:=?_);rintro _ _ aqh rfl;have aov:=be aqh.2 aov;have apk:=be aqh.2 apk;have aor:=xt aor aqh.2;refine l_op (k_add (a:=1) (b:=pickI y 8) (c:=(pl:Int)) rfl rfl (by unfold In64; omega) hpl ?_);refine go ?_;refine l_op (k_arrAddr (m:=7) (b:=w.heap.size) (o:=0) (i:=4) (oo:=4) U2022 sz3 rfl rfl dc rfl ?_);refine go ?_;refine clb en2010 (hc:=pickL16_ok x4 100 _ hxd dc) (hk:=?_);rintro _ _ aqi rfl;have aov:=be aqi.2 aov;have apk:=be aqi.2 apk;have aor:=xt aor aqi.2;refine adi ?_;refine clb en6007 (hc:=l16of_ok om om) (hk:=?_);rintro _ _ aqj rfl;have aov:=be aqj.2 aov;have apk:=be aqj.2 apk;have aor:=xt aor aqj.2;refine l_op (k_fieldAddr (b:=aop.heap.size) (o:=0) (off:=0) (oo:=0) U2029 rfl rfl sz2027 rfl rfl ?_);refine l_op (k_fieldAddr (b:=aop.heap.size) (o:=0) (off:=7) (oo:=7) U2027 rfl rfl sz36 rfl rfl ?_);refine SA apk (fun asr aqk arc=>?_);have aov:=pb aqk aov;have aor:=plw aqk aor;have awp:=psz aqk;refine go ?_;refine c_dv hmix 10 [10,44,45,46,47,48,49,50,51] [some (45,pT aop.heap.size),some (46,.pointer (some ⟨aop.heap.size,7,none⟩)),some (47,QV (1+(pickI x4 100)) 1000),some (48,QV 1 2),some (49,.tuple #[QV hn hm,.int .i64 0]),some (44,.tuple #[QV hn hm,.int .i64 0]),some (50,QV hn hm),some (51,.int .i64 0),none,none] (XA asr 8 9 10 25 #[S ([]),S ([])] #[S (qR hn hm).1,S (qR hn hm).2]) XA.start krDm6 krDm6 krDm6 ?_ ?_
 refine ⟨fun awq _ _ ass _ ast _ _ _=>?_,?_⟩;obtain ⟨awq,rfl⟩:=ovE ass;refine l_op (k_fieldAddr (b:=aop.heap.size) (o:=0) (off:=0) (oo:=0) U2029 rfl rfl sz2027 rfl rfl ?_);refine go ?_;exact dvA rfl ast erDm6;refine ⟨fun asu _ _ awz asv asw _ _ _=>?_,?_⟩;obtain ⟨asu,rfl⟩:=ovE awz;have asx:=zpv (asv 0 _ _ rfl rfl);refine l_op (k_fieldAddr (b:=aop.heap.size) (o:=0) (off:=7) (oo:=7) U2027 rfl rfl sz36 rfl asx ?_);refine go ?_;exact dvA rfl asw erDm6;refine ⟨fun asy _ _ aw5 asz ard _ _ _=>?_,?_⟩;obtain ⟨asy,rfl⟩:=ovE aw5;have as0:=zpv (asz 1 _ _ rfl rfl);have as1:=(be ard.1 arc);refine go ?_;exact dvA rfl ard erDm6;refine ⟨fun aw9 _ _ axc _ arf _ _ _=>?_,?_⟩;obtain ⟨aw9,rfl⟩:=ovE axc;refine clb en6007 (hc:=l16of_ok om om) (hk:=?_);rintro _ _ ari rfl;refine go ?_;exact dvA rfl arf ari.2;refine ⟨fun arj _ _ axl ark arl _ _ _=>?_,?_⟩;obtain ⟨arj,rfl⟩:=ovE axl;have as2:=zpv (ark 2 _ _ rfl rfl);have as3:=zpv (ark 3 _ _ rfl rfl);have aql:=xt aor arl.1;refine cl en219 ((hMa _ (ht.ext aql))) ?_ (cons_eq as2 (cons_eq as3 rfl));rintro _ _ arm rfl;refine go ?_;exact dvA rfl arl arm.2;refine ⟨fun as4 _ _ axt as5 as6 _ _ _=>?_,?_⟩;obtain ⟨as4,rfl⟩:=ovE axt;have as7:=zpv (as5 4 _ _ rfl rfl);refine go ?_;exact dvA rfl as6 erDm6;refine ⟨fun as8 _ _ axz as9 ata _ _ _=>?_,?_⟩
 obtain ⟨as8,rfl⟩:=ovE axz;have atb:=zpv (as9 5 _ _ rfl rfl);refine go ?_;exact dvA rfl ata erDm6;refine ⟨fun atc _ _ ax5 atd ate _ _ _=>?_,?_⟩;obtain ⟨atc,rfl⟩:=ovE ax5;have atf:=zpv (atd 5 _ _ rfl rfl);refine go ?_;exact dvA rfl ate erDm6;refine ⟨fun ax9 _ _ ayc _ arn atg ath _=>?_,?_⟩;obtain ⟨ax9,rfl⟩:=ovE ayc;have aqm:=xt aor arn.1;have ayf:=bz aqm;refine al inf36 (fun _ aro ati=>?_);refine go ?_;exact dvAa rfl arn (unl atg (i:=8) (j:=9) rfl ath) aro.2 ati;refine ⟨fun atj _ _ ayj atk aqn _ atl atm=>?_,?_⟩;obtain ⟨atj,rfl⟩:=ovE ayj;have atn:=zpv (atk 6 _ _ rfl rfl);have aqo:=xt aor aqn.1;have ayl:=bz aqo;obtain ⟨_,aqc,atp,atq⟩:=XA.opn aqn (atm 8 rfl) atl;have aqc:=zpv aqc;have aym:=bz aor;refine SA atq (fun _ aqp atr=>?_);have ayo:=psz aqp;refine go ?_;exact dvAs (.inr rfl) aqn aqc atp aqp atr;exact trivial;intro arp att _ arq ap0 atu ap7;obtain ⟨arp,rfl⟩:=ovE ap0;have arr:=(be ap7.1 aov);have ayq:=bt arr;have ars:=(be ap7.1 arc);have ayr:=bt ars;have apv:=xt aor ap7.1;have ays:=bz apv;have ayt:=bz ap7.1;obtain ⟨art,aqq,_,aqr⟩:=XA.fin ap7 (arq 8 rfl) (.inl (arq 9 rfl));have aqq:=zpv aqq;have ayv:=bt aqr;have atv:=zpv (atu 7 _ _ rfl rfl);refine go ?_;have atw:arp 10=pT art:=(aqq);refine c_dv hmix 8 [12,52,53,54,55,56,57] [some (53,QV 1 1),some (54,QV hn hm),some (55,.tuple #[QV pn pm,.int .i64 0]),some (52,.tuple #[QV pn pm,.int .i64 0]),some (56,QV pn pm),some (57,.int .i64 0),none,none] (XA att 6 7 12 25 #[S ([]),S ([])] #[S (qR pn pm).1,S (qR pn pm).2]) XA.start krDm6 krDm6 krDm6 ?_ ?_
 refine ⟨fun ayw _ _ ayz _ aru _ _ _=>?_,?_⟩;obtain ⟨ayw,rfl⟩:=ovE ayz;refine clb en6007 (hc:=l16of_ok om om) (hk:=?_);rintro _ _ arw rfl;refine go ?_;exact dvA rfl aru arw.2;refine ⟨fun ay6 _ _ atx _ arx _ _ _=>?_,?_⟩;obtain ⟨ay6,rfl⟩:=ovE atx;have aty:=(be arx.1 aqr);refine go ?_;exact dvA rfl arx erDm6;refine ⟨fun ary _ _ azf arz ar0 _ _ _=>?_,?_⟩;obtain ⟨ary,rfl⟩:=ovE azf;have atz:=zpv (arz 0 _ _ rfl rfl);have at0:=zpv (arz 1 _ _ rfl rfl);have aqs:=xt apv ar0.1;refine cl en220 ((hSa _ (ht.ext aqs))) ?_ (cons_eq atz (cons_eq at0 rfl));rintro _ _ ar1 rfl;refine go ?_;exact dvA rfl ar0 ar1.2;refine ⟨fun at1 _ _ azn at2 at3 _ _ _=>?_,?_⟩;obtain ⟨at1,rfl⟩:=ovE azn;have at4:=zpv (at2 2 _ _ rfl rfl);refine go ?_;exact dvA rfl at3 erDm6;refine ⟨fun at6 _ _ azt at7 at8 _ _ _=>?_,?_⟩;obtain ⟨at6,rfl⟩:=ovE azt;have at9:=zpv (at7 3 _ _ rfl rfl);refine go ?_;exact dvA rfl at8 erDm6;refine ⟨fun aua _ _ azz aub auc _ _ _=>?_,?_⟩;obtain ⟨aua,rfl⟩:=ovE azz;have aud:=zpv (aub 3 _ _ rfl rfl);refine go ?_;exact dvA rfl auc erDm6;refine ⟨fun az3 _ _ az6 _ ar2 aue auf _=>?_,?_⟩;obtain ⟨az3,rfl⟩:=ovE az6;have aqt:=xt apv ar2.1;have az9:=bz aqt;refine al inf36 (fun _ ar3 aug=>?_);refine go ?_;exact dvAa rfl ar2 (unl aue (i:=6) (j:=7) rfl auf) ar3.2 aug;refine ⟨fun auh _ _ a0d aui aqu _ auj auk=>?_,?_⟩
 obtain ⟨auh,rfl⟩:=ovE a0d;have aul:=zpv (aui 4 _ _ rfl rfl);have aqv:=xt apv aqu.1;have a0f:=bz aqv;obtain ⟨_,aqd,aun,auo⟩:=XA.opn aqu (auk 6 rfl) auj;have aqd:=zpv aqd;have a0g:=bz apv;refine SA auo (fun _ aqw aup=>?_);have a0i:=psz aqw;refine go ?_;exact dvAs (.inr rfl) aqu aqd aun aqw aup;exact trivial;intro ap1 _ _ ar4 apw auq ap2;obtain ⟨ap1,rfl⟩:=ovE apw;have aom:=(be ap2.1 arr);have a0l:=bt aom;have sc:=(be ap2.1 ars);have a0m:=bt sc;have aon:=(be ap2.1 aqr);have a0n:=bt aon;have r8:=xt apv ap2.1;have a0o:=bz r8;have a0p:=bz ap2.1;obtain ⟨ar5,aqx,_,aol⟩:=XA.fin ap2 (ar4 6 rfl) (.inl (ar4 7 rfl));have aqx:=zpv aqx;have a0r:=bt aol;have aur:=zpv (auq 5 _ _ rfl rfl);refine go ?_;have aus:ap1 12=pT ar5:=(aqx);refine go ?_;refine cl en1015 ((hQn _ (ht.ext r8))) ?_;rintro _ _ ap8 rfl;have aom:=be ap8.2 aom;have sc:=be ap8.2 sc;have aon:=be ap8.2 aon;have aol:=be ap8.2 aol;have r8:=xt r8 ap8.2;refine go ?_;refine al inf1032 (fun _ ap9 aut=>?_);have aom:=be ap9.2 aom;have sc:=be ap9.2 sc;have aon:=be ap9.2 aon;have aol:=be ap9.2 aol;have r8:=xt r8 ap9.2;refine SA aut (fun _ ap3 aoo=>?_);have aom:=pb ap3 aom;have sc:=pb ap3 sc;have aon:=pb ap3 aon;have aol:=pb ap3 aol
 have r8:=plw ap3 r8;have a0v:=psz ap3;refine go ?_;refine l_op (k_fieldAddr (b:=aop.heap.size) (o:=0) (off:=11) (oo:=11) U2029 rfl rfl sz36 rfl rfl ?_);refine go ?_;refine cl en219 ((hMb _ (ht.ext r8))) ?_;rintro _ _ ap4 rfl;have aom:=be ap4.2 aom;have sc:=be ap4.2 sc;have aon:=be ap4.2 aon;have aol:=be ap4.2 aol;have aoo:=be ap4.2 aoo;have r8:=xt r8 ap4.2;refine go ?_;refine al inf36 (fun _ ap5 auu=>?_);have aom:=be ap5.2 aom;have sc:=be ap5.2 sc;have aon:=be ap5.2 aon;have aol:=be ap5.2 aol;have aoo:=be ap5.2 aoo;have r8:=xt r8 ap5.2;refine SA auu (fun _ apx aos=>?_);have aom:=pb apx aom;have sc:=pb apx sc;have aon:=pb apx aon;have aol:=pb apx aol;have aoo:=pb apx aoo;have r8:=plw apx r8;have a0z:=psz apx;refine go ?_;refine l_op (k_fieldAddr (b:=aop.heap.size) (o:=0) (off:=0) (oo:=0) U2029 rfl rfl sz2027 rfl rfl ?_);refine l_op (k_fieldAddr (b:=aop.heap.size) (o:=0) (off:=1) (oo:=1) U2027 rfl rfl sz36 rfl rfl ?_);refine go ?_;refine cl en217 ((hAa _ (ht.ext r8))) ?_;rintro _ _ apy rfl;have aom:=be apy.2 aom;have sc:=be apy.2 sc;have aon:=be apy.2 aon;have aol:=be apy.2 aol;have aoo:=be apy.2 aoo;have aos:=be apy.2 aos;have r8:=xt r8 apy.2
 refine go ?_;refine al inf36 (fun _ apz auv=>?_);have aom:=be apz.2 aom;have sc:=be apz.2 sc;have aon:=be apz.2 aon;have aol:=be apz.2 aol;have aoo:=be apz.2 aoo;have aos:=be apz.2 aos;have r8:=xt r8 apz.2;refine SA auv (fun _ apq ao3=>?_);have aom:=pb apq aom;have sc:=pb apq sc;have aon:=pb apq aon;have aol:=pb apq aol;have aoo:=pb apq aoo;have aos:=pb apq aos;have r8:=plw apq r8;have a03:=psz apq;refine go ?_;refine l_op (k_fieldAddr (b:=aop.heap.size) (o:=0) (off:=0) (oo:=0) U2029 rfl rfl sz2027 rfl rfl ?_);refine l_op (k_fieldAddr (b:=aop.heap.size) (o:=0) (off:=3) (oo:=3) U2027 rfl rfl sz36 rfl rfl ?_);refine go ?_;refine cl en220 ((hSb _ (ht.ext r8))) ?_;rintro _ _ apr rfl;have aom:=be apr.2 aom;have sc:=be apr.2 sc;have aon:=be apr.2 aon;have aol:=be apr.2 aol;have aoo:=be apr.2 aoo;have aos:=be apr.2 aos;have ao3:=be apr.2 ao3;have r8:=xt r8 apr.2;refine go ?_;refine al inf36 (fun _ aps auw=>?_);have aom:=be aps.2 aom;have sc:=be aps.2 sc;have aon:=be aps.2 aon;have aol:=be aps.2 aol;have aoo:=be aps.2 aoo;have aos:=be aps.2 aos;have ao3:=be aps.2 ao3;have r8:=xt r8 aps.2;refine SA auw (fun _ apl apf=>?_);have aom:=pb apl aom
 have sc:=pb apl sc;have aon:=pb apl aon;have aol:=pb apl aol;have aoo:=pb apl aoo;have aos:=pb apl aos;have ao3:=pb apl ao3;have r8:=plw apl r8;have a07:=psz apl;refine go ?_;refine cl en49 ((hCm _ (ht.ext r8))) ?_;rintro _ _ apm rfl;have aom:=be apm.2 aom;have sc:=be apm.2 sc;have aon:=be apm.2 aon;have aol:=be apm.2 aol;have aoo:=be apm.2 aoo;have aos:=be apm.2 aos;have ao3:=be apm.2 ao3;have apf:=be apm.2 apf;have r8:=xt r8 apm.2;refine go ?_;by_cases ao5:0<c;refine go ?_;exact f_ret1 (t:=6) (v:=.bool true) rfl r8 rfl rfl;refine go ?_;refine cl en220 ((hSc _ (ht.ext r8))) ?_;rintro _ _ apn rfl;have aom:=be apn.2 aom;have sc:=be apn.2 sc;have aon:=be apn.2 aon;have aol:=be apn.2 aol;have aoo:=be apn.2 aoo;have aos:=be apn.2 aos;have ao3:=be apn.2 ao3;have apf:=be apn.2 apf;have r8:=xt r8 apn.2;refine go ?_;refine al inf36 (fun _ apo auz=>?_);have aom:=be apo.2 aom;have sc:=be apo.2 sc;have aon:=be apo.2 aon;have aol:=be apo.2 aol;have aoo:=be apo.2 aoo;have aos:=be apo.2 aos;have ao3:=be apo.2 ao3;have apf:=be apo.2 apf;have r8:=xt r8 apo.2;refine SA auz (fun au0 api ar7=>?_);have aom:=pb api aom;have sc:=pb api sc
 have aon:=pb api aon;have aol:=pb api aol;have aoo:=pb api aoo;have aos:=pb api aos;have ao3:=pb api ao3;have apf:=pb api apf;have r8:=plw api r8;have a1c:=psz api;refine go ?_;refine c_dv hmix 10 [24,120,121,122,123,124,125,126,127] [some (121,QV qn qm),some (122,.int .i64 pa),some (123,.int .i64 (pickI pa 11)),some (124,QV (pickI pa 11) 10),some (125,.tuple #[QV sn sm,.int .i64 0]),some (120,.tuple #[QV sn sm,.int .i64 0]),some (126,QV sn sm),some (127,.int .i64 0),none,none] (XA au0 8 9 24 25 #[S ([]),S ([])] #[S (qR sn sm).1,S (qR sn sm).2]) XA.start krDm6 krDm6 krDm6 ?_ ?_;refine ⟨fun a1d _ _ au2 _ ar8 _ _ _=>?_,?_⟩;obtain ⟨a1d,rfl⟩:=ovE au2;have au3:=(be ar8.1 ar7);refine go ?_;exact dvA rfl ar8 erDm6;refine ⟨fun a1k _ _ au4 _ au5 _ _ _=>?_,?_⟩;obtain ⟨a1k,rfl⟩:=ovE au4;refine go ?_;exact dvA rfl au5 erDm6;refine ⟨fun au6 _ _ a1t au7 ar9 _ _ _=>?_,?_⟩;obtain ⟨au6,rfl⟩:=ovE a1t;have au8:=zpv (au7 1 _ _ rfl rfl);refine clb en2010 (hc:=pickL16_ok pa 11 _ hpa dc) (hk:=?_) (hv:=cons_eq au8 (cons_eq rfl rfl));rintro _ _ asb rfl
 refine go ?_;exact dvA rfl ar9 asb.2;refine ⟨fun au9 _ _ a12 ava asc _ _ _=>?_,?_⟩;obtain ⟨au9,rfl⟩:=ovE a12;have avb:=zpv (ava 2 _ _ rfl rfl);refine clb en6007 (hc:=l16of_ok om om) (hk:=?_) (hv:=cons_eq avb (cons_eq rfl rfl));rintro _ _ ase rfl;refine go ?_;exact dvA rfl asc ase.2;refine ⟨fun asf _ _ a2a asg ash _ _ _=>?_,?_⟩;obtain ⟨asf,rfl⟩:=ovE a2a;have avc:=zpv (asg 0 _ _ rfl rfl);have avd:=zpv (asg 3 _ _ rfl rfl);have aq1:=xt r8 ash.1;refine cl en219 ((hMc _ (ht.ext aq1))) ?_ (cons_eq avc (cons_eq avd rfl));rintro _ _ asi rfl;refine go ?_;exact dvA rfl ash asi.2;refine ⟨fun ave _ _ a2i avf avg _ _ _=>?_,?_⟩;obtain ⟨ave,rfl⟩:=ovE a2i;have avh:=zpv (avf 4 _ _ rfl rfl);refine go ?_;exact dvA rfl avg erDm6;refine ⟨fun avi _ _ a2o avj avk _ _ _=>?_,?_⟩;obtain ⟨avi,rfl⟩:=ovE a2o;have avl:=zpv (avj 5 _ _ rfl rfl);refine go ?_;exact dvA rfl avk erDm6;refine ⟨fun avm _ _ a2u avn avo _ _ _=>?_,?_⟩;obtain ⟨avm,rfl⟩:=ovE a2u;have avp:=zpv (avn 5 _ _ rfl rfl);refine go ?_;exact dvA rfl avo erDm6;refine ⟨fun a2y _ _ a23 _ asj avq avr _=>?_,?_⟩;obtain ⟨a2y,rfl⟩:=ovE a23;have aq2:=xt r8 asj.1;have a26:=bz aq2;refine al inf36 (fun _ ask avs=>?_);refine go ?_;exact dvAa rfl asj (unl avq (i:=8) (j:=9) rfl avr) ask.2 avs;refine ⟨fun avt _ _ a3a avu aq3 _ avv avw=>?_,?_⟩;obtain ⟨avt,rfl⟩:=ovE a3a
 have avx:=zpv (avu 6 _ _ rfl rfl);have aq4:=xt r8 aq3.1;have a3c:=bz aq4;obtain ⟨_,aqf,avz,av0⟩:=XA.opn aq3 (avw 8 rfl) avv;have aqf:=zpv aqf;have a3d:=bz r8;refine SA av0 (fun _ aq5 av1=>?_);have a3f:=psz aq5;refine go ?_;exact dvAs (.inr rfl) aq3 aqf avz aq5 av1;exact trivial;intro apt _ _ asl ap6 av2 ao9;obtain ⟨apt,rfl⟩:=ovE ap6;have aow:=(be ao9.1 aom);have a3i:=bt aow;have apu:=(be ao9.1 sc);have a3j:=bt apu;have aox:=(be ao9.1 aon);have a3k:=bt aox;have aoy:=(be ao9.1 aol);have a3l:=bt aoy;have aoz:=(be ao9.1 aoo);have a3m:=bt aoz;have ao0:=(be ao9.1 aos);have a3n:=bt ao0;have aot:=(be ao9.1 ao3);have a3o:=bt aot;have ao1:=(be ao9.1 apf);have a3p:=bt ao1;have ao2:=(be ao9.1 ar7);have a3q:=bt ao2;have aoq:=xt r8 ao9.1;have a3r:=bz aoq;have a3s:=bz ao9.1;obtain ⟨asm,aq6,_,aou⟩:=XA.fin ao9 (asl 8 rfl) (.inl (asl 9 rfl));have aq6:=zpv aq6;have a3u:=bt aou;have av3:=zpv (av2 7 _ _ rfl rfl);refine go ?_;have av5:apt 24=pT asm:=(aq6);refine go ?_;refine cl en217 ((hAb _ (ht.ext aoq))) ?_;rintro _ _ apg rfl;have aow:=be apg.2 aow;have apu:=be apg.2 apu;have aox:=be apg.2 aox;have aoy:=be apg.2 aoy;have aoz:=be apg.2 aoz;have ao0:=be apg.2 ao0;have aot:=be apg.2 aot;have ao1:=be apg.2 ao1
 have ao2:=be apg.2 ao2;have aou:=be apg.2 aou;have aoq:=xt aoq apg.2;refine go ?_;refine al inf36 (fun _ aph av6=>?_);have aow:=be aph.2 aow;have apu:=be aph.2 apu;have aox:=be aph.2 aox;have aoy:=be aph.2 aoy;have aoz:=be aph.2 aoz;have ao0:=be aph.2 ao0;have aot:=be aph.2 aot;have ao1:=be aph.2 ao1;have ao2:=be aph.2 ao2;have aou:=be aph.2 aou;have aoq:=xt aoq aph.2;refine SA av6 (fun _ apa ao4=>?_);have aow:=pb apa aow;have apu:=pb apa apu;have aox:=pb apa aox;have aoy:=pb apa aoy;have aoz:=pb apa aoz;have ao0:=pb apa ao0;have aot:=pb apa aot;have ao1:=pb apa ao1;have ao2:=pb apa ao2;have aou:=pb apa aou;have aoq:=plw apa aoq;have a3y:=psz apa;refine go ?_;refine l_op (k_fieldAddr (b:=aop.heap.size) (o:=0) (off:=9) (oo:=9) U2029 rfl rfl sz36 rfl rfl ?_);refine SA apu (fun _ apb apc=>?_);have aow:=pb apb aow;have aox:=pb apb aox;have aoy:=pb apb aoy;have aoz:=pb apb aoz;have ao0:=pb apb ao0;have aot:=pb apb aot;have ao1:=pb apb ao1;have ao2:=pb apb ao2;have aou:=pb apb aou;have ao4:=pb apb ao4
 have aoq:=plw apb aoq;have a30:=psz apb;refine go ?_;refine l_op (k_fieldAddr (b:=aop.heap.size) (o:=0) (off:=0) (oo:=0) U2029 rfl rfl sz2027 rfl rfl ?_);refine l_op (k_loadA (cs:=[.int .i64 kd,S (qR la lb).1,S (qR la lb).2,S (qR ha hb).1,S (qR ha hb).2,S (qR ga gb).1,S (qR ga gb).2,S ((qR (1+(pickI x4 100)) 1000).1),S ((qR (1+(pickI x4 100)) 1000).2)]) (b:=aop.heap.size) (o:=0) U2027 rfl sz2027 rfl (Blk.cells apc (i:=0) rfl) ?_);refine cl en2020 ((hAc _ (ht.ext aoq))) ?_;rintro _ aso apd rfl;have aow:=be apd.2 aow;have apc:=be apd.2 apc;have aox:=be apd.2 aox;have aoy:=be apd.2 aoy;have aoz:=be apd.2 aoz;have ao0:=be apd.2 ao0;have aot:=be apd.2 aot;have ao1:=be apd.2 ao1;have ao2:=be apd.2 ao2;have aou:=be apd.2 aou;have ao4:=be apd.2 ao4;have aoq:=xt aoq apd.2;refine go ?_;refine al inf1032 (fun _ ape av7=>?_);have aow:=be ape.2 aow;have apc:=be ape.2 apc;have aox:=be ape.2 aox;have aoy:=be ape.2 aoy;have aoz:=be ape.2 aoz;have ao0:=be ape.2 ao0;have aot:=be ape.2 aot;have ao1:=be ape.2 ao1;have ao2:=be ape.2 ao2;have aou:=be ape.2 aou;have ao4:=be ape.2 ao4;have aoq:=xt aoq ape.2;refine SA av7 (fun _ ao6 aqb=>?_);have aow:=pb ao6 aow;have apc:=pb ao6 apc;have aox:=pb ao6 aox
 have aoy:=pb ao6 aoy;have aoz:=pb ao6 aoz;have ao0:=pb ao6 ao0;have aot:=pb ao6 aot;have ao1:=pb ao6 ao1;have ao2:=pb ao6 ao2;have aou:=pb ao6 aou;have ao4:=pb ao6 ao4;have aoq:=plw ao6 aoq;have a34:=psz ao6;refine go ?_;refine l_op (k_loadA (cs:=[.int .i64 kd,S (qR la lb).1,S (qR la lb).2,S (qR ha hb).1,S (qR ha hb).2,S (qR ga gb).1,S (qR ga gb).2,S ((qR (1+(pickI x4 100)) 1000).1),S ((qR (1+(pickI x4 100)) 1000).2),S (qR rn rm).1,S (qR rn rm).2,S (qR sa sb).1,S (qR sa sb).2]) (b:=aop.heap.size) (o:=0) U2029 rfl sz2029 rfl (Blk.cells apc (i:=0) krDm6) ?_);refine go ?_;refine cl en2011 ((hV ao5 _ (ht.ext aoq))) ?_;rintro _ _ ao7 rfl;have ao4:=be ao7.2 ao4;have aqb:=be ao7.2 aqb;have aoq:=xt aoq ao7.2;refine go ?_;have hz:decide (v1=0)=false:=decide_eq_false (by have:=hv1 ao5; omega)
 have hz' : (!decide (v1=0))=true:=by rw [hz]; rfl
 by_cases apj:v1=2
 · have hi : ins = false := hvi ao5 apj
   subst hi
   have h2:decide (v1=2)=true:=decide_eq_true apj
   have h2' : (!decide (v1=2))=false:=by rw [h2]; rfl
   refine go ?_
   refine l_op (k_loadA (cs:=[S (qR an am).1,S (qR an am).2,S (qR en em).1,S (qR en em).2]) (b:=aso.heap.size) (o:=0) U1032 rfl sz1032 rfl (Blk.cells aqb (i:=0) rfl) ?_)
   refine go ?_
   refine cl en1057 ((hCo _ (ht.ext aoq))) ?_;rintro _ _ ao8 rfl;have aoq:=xt aoq ao8.2
   refine go ?_
   exact f_ret1 (t:=6) (v:=.bool true) rfl aoq rfl rfl
 · have h2 : decide (v1 = 2) = false := decide_eq_false apj
   have h2' : (!decide (v1=2))=true:=by rw [h2]; rfl
   refine go ?_
   exact f_ret1 (t:=6) (v:=.bool true) rfl aoq rfl rfl
end Go.Proofs.YtinldhphnpflaaaGreatDoor
namespace Go.Proofs.YtinldhphnpflaaaGreatDoor
open Go Go.Eng Go.RowKit
theorem Rl.risk {kd:Nat}{la lb ha hb ga gb ra rb xa xb ya yb r s:Int}(c:Rl kd la lb ha hb ga gb ra rb xa xb ya yb)(h:Sz r s)(h0:0<=r)(h1:r<=s):Rl kd la lb ha hb ga gb r s xa xb ya yb:=⟨c.k1,c.k3,c.l,c.h,c.g,h,c.g0,c.g1,h0,h1,c.lh,c.acc⟩
theorem qn_gu {k z:Nat}{w:World}(k1:1<=k)(k2:k<=100)(g:GuR k z)(ht:Tb w):CL 10 #[QV ((2000-k:Nat):Int) 2000,.int .i64 2] w (Ret w λv _=>v=.tuple #[IV ((z:Int)-1) 100 z 100,.int .i64 0]):=by
  have hne:¬qR ((2000-k:Nat):Int) ((2000:Nat):Int)=(([49],[50]):R):=λh=>by
    have:=qR_inj om dc (h.trans q12);omega
  have h:=Quantile_ok (a:=2000-k) (b:=2000) (pl:=2) (r:=((z:Int)-1,(z:Int))) (w:=w) (q9_12 om dc dc) om dc om (rightB_ok om om om) hne g.q ht
  exact h
theorem guN_int {z S W j:Nat}(h:z*S<=200*W)(hj:j<=10):((guN z S W j:Nat):Int)=10*((z*S:Nat):Int)+(200*(W:Int)-2*((z*S:Nat):Int))*j:=by
  unfold guN
  generalize z*S=P at *
  obtain⟨a,_⟩:∃a,10=a+j:=⟨10-j,by omega⟩
  obtain⟨b,_⟩:∃b,200*W=b+P:=⟨200*W-P,by omega⟩
  rw[show 10-j=a by omega,show 200*W-P=b by omega,Int.natCast_add,Int.natCast_mul,Int.natCast_mul]
  have e1:(a:Int)=10-j:=by omega
  have e2:(b:Int)=200*W-P:=by omega
  rw[e1,e2];grind
theorem guN_le {z S W j:Nat}(h:z*S<=200*W)(hW:W<=40)(hj:j<=10):guN z S W j<=80000:=by
  have:=guN_sym (z:=z) (S:=S) (W:=W) h hj
  omega
section
variable {kd:Nat}{L G gd xa xb ya yb:Int}{k z S W j pl:Nat}
theorem out_gu (g:GuR k z)(k2:k<=100)(l1:-20<=L)(l2:L<=20)(s1:1<=S)(s2:S<=30)(w1:1<=W)(w2:W<=40)(hz:z*S<=100*W)(hj:j<=10)(p1:1<=pl)(p8:pl<=8):∃K U:Int,OutC pl (2000*L+(guN z S W j:Int)) 20000 S 20 L 10 (L+W) 10 K U∧K*1000<=k*tenI pl:=by
  have z200:z*S<=200*W:=by omega
  obtain⟨_,_,h1,_⟩:=sh_gu (g.r S W j s1 s2 w1 w2 hz hj) p8 s1
  obtain⟨_,_,h2,_⟩:=sh_gu (g.r S W (10-j) s1 s2 w1 w2 hz om) p8 s1
  have b1:=guN_le z200 w2 hj
  have b2:=guN_le (j:=10-j) z200 w2 om
  have hs:=guN_sym (z:=z) (S:=S) (W:=W) z200 hj
  have z1:Sz (-(guN z S W j:Int)) (1000*(S:Int)):=sz_ om om om
  have z2:Sz (-(guN z S W (10-j):Int)) (1000*(S:Int)):=sz_ om om om
  have o:=outN_of p1 (show pl<=12 by omega) z1 z2 h1 h2 (2000*L+(guN z S W j:Int)) 20000 S 20 L 10 (L+W) 10 (sz_ om dc dc) (sz_ om dc dc) om (sz_ om dc dc) (sz_ om dc dc) om (by grind) (by
    have e:((guN z S W (10-j):Nat):Int)=2000*(W:Int)-(guN z S W j:Int):=by omega
    rw[e];grind)
  exact⟨_,_,o,by omega⟩
end
theorem decideGuarded_law {x0 x1 x2 x3 x4 x5 x6 y pa:Int}{w:World}(hx0:In64 x0)(hx1:In64 x1)(hx2:In64 x2)(hx3:In64 x3)(hx4:In64 x4)(hx5:In64 x5)(hx6:In64 x6)(hy:In64 y)(hpa:In64 pa)(ht:Tb w):
    CL 3 #[.agg #[.int .i64 x0,.int .i64 x1,.int .i64 x2,.int .i64 x3,.int .i64 x4,.int .i64 x5,.int .i64 x6],.int .i64 y,.int .i64 pa] w (Ret w λv _=>v=.bool true):=by
  obtain⟨kd,L,W,G,gd,R,q,S,D,m,hMk⟩:=make_c hx0 hx1 hx2 hx3 hx4 hx5 hx6
  obtain⟨xa,xb,ya,yb,rl0,hv⟩:=m.rl
  obtain⟨pl,hpl,p1,p8⟩:=pl_of hy
  have bk:=pick_bd x4 100 dc
  have bj:=pick_bd pa 11 dc
  obtain⟨k,hk⟩:∃k:Nat,1+pickI x4 100=(k:Int):=⟨(1+pickI x4 100).toNat,by omega⟩
  obtain⟨j,hj⟩:∃j:Nat,pickI pa 11=(j:Int):=⟨(pickI pa 11).toNat,by omega⟩
  have k1:1<=k:=by omega
  have k2:k<=100:=by omega
  have j10:j<=10:=by omega
  obtain⟨z,g⟩:=gu_all k1 k2
  have z5:=g.z5
  have z1:=g.z1
  have l1:=m.l1
  have l2:=m.l2
  have w1:=m.w1
  have w2:=m.w2
  have s1:=m.s1
  have s2:=m.s2
  obtain⟨W,rfl⟩:∃W':Nat,W=W':=⟨W.toNat,by omega⟩
  obtain⟨S,rfl⟩:∃S':Nat,S=S':=⟨S.toNat,by omega⟩
  have rl:=rl0.risk (r:=(k:Int)) (s:=1000) (sz_ om dc dc) om om
  have hP:z*S<=500*30:=Nat.mul_le_mul z5 om
  have eP:(z:Int)*S=((z*S:Nat):Int):=(Int.natCast_mul _ _).symm
  have hT:((200*(W:Int)-2*((z*S:Nat):Int))*j).natAbs<=38000*10:=by
    rw[Int.natAbs_mul]
    exact Nat.mul_le_mul om om
  have q1:Q9 (k:Int) 1000:=q9_12 om dc dc
  have q2:Q9 1 2:=q9_12 dc dc dc
  have q3:Q9 1 1:=q9_12 dc dc dc
  have q4:Q9 (k:Int) 2000:=q9_12 om dc dc
  have q5:Q9 (z:Int) 100:=q9_12 om dc dc
  have q6:Q9 (S:Int) 20:=q9_12 om dc dc
  have q7:Q9 ((z*S:Nat):Int) 2000:=q9_12 om dc dc
  have qL:Q9 L 10:=q9_12 om dc dc
  have qH:Q9 (L+W) 10:=q9_12 om dc dc
  have q8:Q9 (2000*L+10*((z*S:Nat):Int)) 20000:=q9_12 om dc dc
  have q9:Q9 (2000*(L+W)-10*((z*S:Nat):Int)) 20000:=q9_12 om dc dc
  have qw:Q9 (200*(W:Int)-2*((z*S:Nat):Int)) 2000:=q9_12 om dc dc
  have qj:Q9 (j:Int) 10:=q9_12 om dc dc
  have qs:Q9 ((200*(W:Int)-2*((z*S:Nat):Int))*j) 20000:=q9_12 om dc dc
  have qr:Q9 (2000*L+10*((z*S:Nat):Int)+(200*(W:Int)-2*((z*S:Nat):Int))*j) 20000:=q9_12 om dc dc
  have hMa:∀X,Tb X->CL 8 #[QV (1+pickI x4 100) 1000,QV 1 2] X (Ret X λv _=>v=.tuple #[QV k 2000,.int .i64 0]):=λX hX=>by
    rw[hk]
    have h:=qMulX q1 q2 hX
    unfold Qv at h
    rw[qR_congr dc dc (show(k:Int)*1*2000=k*(1000*2)by omega)]at h
    exact h
  have hSa:∀X,Tb X->CL 9 #[QV 1 1,QV k 2000] X (Ret X λv _=>v=.tuple #[QV ((2000-k:Nat):Int) 2000,.int .i64 0]):=λX hX=>by
    have h:=qSubX q3 q4 hX
    unfold Qv at h
    rw[qR_congr dc dc (show(1*2000-(k:Int)*1)*2000=((2000-k:Nat):Int)*(1*2000)by omega)]at h
    exact h
  have hMb:∀X,Tb X->CL 8 #[QV z 100,QV S 20] X (Ret X λv _=>v=.tuple #[QV ((z*S:Nat):Int) 2000,.int .i64 0]):=λX hX=>by
    have h:=qMulX q5 q6 hX
    unfold Qv at h
    rw[qR_congr dc dc (show(z:Int)*S*2000=((z*S:Nat):Int)*(100*20)by rw[eP];omega)]at h
    exact h
  have hAa:∀X,Tb X->CL 11 #[QV L 10,QV ((z*S:Nat):Int) 2000] X (Ret X λv _=>v=.tuple #[QV (2000*L+10*((z*S:Nat):Int)) 20000,.int .i64 0]):=λX hX=>by
    have h:=qAddX qL q7 hX
    unfold Qv at h
    rw[qR_congr dc dc (show(L*2000+((z*S:Nat):Int)*10)*20000=(2000*L+10*((z*S:Nat):Int))*(10*2000)by omega)]at h
    exact h
  have hSb:∀X,Tb X->CL 9 #[QV (L+W) 10,QV ((z*S:Nat):Int) 2000] X (Ret X λv _=>v=.tuple #[QV (2000*(L+W)-10*((z*S:Nat):Int)) 20000,.int .i64 0]):=λX hX=>by
    have h:=qSubX qH q7 hX
    unfold Qv at h
    rw[qR_congr dc dc (show((L+W)*2000-((z*S:Nat):Int)*10)*20000=(2000*(L+W)-10*((z*S:Nat):Int))*(10*2000)by omega)]at h
    exact h
  have hSc:∀X,Tb X->CL 9 #[QV (2000*(L+W)-10*((z*S:Nat):Int)) 20000,QV (2000*L+10*((z*S:Nat):Int)) 20000] X (Ret X λv _=>v=.tuple #[QV (200*(W:Int)-2*((z*S:Nat):Int)) 2000,.int .i64 0]):=λX hX=>by
    have h:=qSubX q9 q8 hX
    unfold Qv at h
    rw[qR_congr dc dc (show((2000*(L+W)-10*((z*S:Nat):Int))*20000-(2000*L+10*((z*S:Nat):Int))*20000)*2000=(200*(W:Int)-2*((z*S:Nat):Int))*(20000*20000)by omega)]at h
    exact h
  have hMc:∀X,Tb X->CL 8 #[QV (200*(W:Int)-2*((z*S:Nat):Int)) 2000,QV (pickI pa 11) 10] X (Ret X λv _=>v=.tuple #[QV ((200*(W:Int)-2*((z*S:Nat):Int))*j) 20000,.int .i64 0]):=λX hX=>by
    rw[hj]
    have h:=qMulX qw qj hX
    unfold Qv at h
    rw[qR_congr dc dc (show(200*(W:Int)-2*((z*S:Nat):Int))*j*20000=(200*(W:Int)-2*((z*S:Nat):Int))*j*(2000*10)by omega)]at h
    exact h
  have hAb:∀X,Tb X->CL 11 #[QV (2000*L+10*((z*S:Nat):Int)) 20000,QV ((200*(W:Int)-2*((z*S:Nat):Int))*j) 20000] X (Ret X λv _=>v=.tuple #[QV (2000*L+10*((z*S:Nat):Int)+(200*(W:Int)-2*((z*S:Nat):Int))*j) 20000,.int .i64 0]):=λX hX=>by
    have h:=qAddX q8 qs hX
    unfold Qv at h
    rw[qR_congr dc dc (show((2000*L+10*((z*S:Nat):Int))*20000+(200*(W:Int)-2*((z*S:Nat):Int))*j*20000)*20000=(2000*L+10*((z*S:Nat):Int)+(200*(W:Int)-2*((z*S:Nat):Int))*j)*(20000*20000)by omega)]at h
    exact h
  have hQn:=λX hX=>qn_gu (w:=X) k1 k2 g hX
  have hCm:=λX hX=>qCmpX (w:=X) q8 q9 hX
  have hAc:∀X,Tb X->CL 13 #[RulV kd L 10 (L+W) 10 G gd (1+pickI x4 100) 1000] X (Ret X λv _=>v=.tuple #[IV xa xb ya yb,.int .i64 0]):=λX hX=>by
    rw[hk];exact rl.accept hv hX
  have hCo:=λX hX=>contains_in (w:=X) rl.qx.1 rl.qx.2 qr hv hX
  by_cases hc:0<cmpI ((2000*L+10*((z*S:Nat):Int))*20000) ((2000*(L+W)-10*((z*S:Nat):Int))*20000)
  · exact guarded_walk (v1:=1) hy hpl hpa hx4 (λh=>absurd hc h) (λh=>absurd hc h) (λX hX=>sane_c hX) (λX _=>hMk X) hMa hSa hMb hAa hSb hSc hMc hAb hQn hCm hAc hCo (λh=>absurd hc h) ht
  · have hz:z*S<=100*W:=by
      have:=mt cmpI_p.2 hc
      omega
    obtain⟨K,U,o,_⟩:=out_gu (L:=L) (pl:=pl) g k2 l1 l2 (show 1<=S by omega) om (show 1<=W by omega) om hz j10 p1 p8
    have er:2000*L+(guN z S W j:Int)=2000*L+10*((z*S:Nat):Int)+(200*(W:Int)-2*((z*S:Nat):Int))*j:=by
      rw[guN_int om j10];omega
    rw[er]at o
    have V:=λX hX=>verdict_c (w:=X) rl hv (sz_ om dc dc) (show pl<=12 by omega) o hX
    refine guarded_walk hy hpl hpa hx4 (λ_=>vdct_ge) (λ_ h=>?_) (λX hX=>sane_c hX) (λX _=>hMk X) hMa hSa hMb hAa hSb hSc hMc hAb hQn hCm hAc hCo (λ_ X hX=>by rw[hk];exact V X hX) ht
    rw[vdct_2]at h
    unfold rejB at h
    cases hi:insB xa xb ya yb (2000*L+10*((z*S:Nat):Int)+(200*(W:Int)-2*((z*S:Nat):Int))*j) 20000 with
    |false=>rfl
    | true=>
      rw[hi,Bool.not_true,Bool.false_or,decide_eq_true_eq]at h
      omega
end Go.Proofs.YtinldhphnpflaaaGreatDoor
namespace Go.Proofs.YtinldhphnpflaaaGreatDoor
open Go Go.ChangeShapes Go.WideShapes Go.ChangeAt Go.RowKit Go.Deep Go.Eng
theorem cOwn:ownKnob Tryz.prog.godebug=none:=by kernel_rfl
theorem cLaid:laidOutB Tryz.prog=true:=by kernel_rfl
theorem c3:Tryz.prog.cellsOf 3=1:=by kernel_rfl
theorem c2022:Tryz.prog.cellsOf 22=7:=by kernel_rfl
theorem gPow : Tryz.prog.globalNamed "internal/strconv.uint64pow10" = some 4 := by kernel_rfl
theorem tPow:(Tryz.prog.globals[4]?).map (·.type)=some 240:=by kernel_rfl
theorem zPow0:(((begin Tryz.prog (λ_ _=>0) default).world.heap[4]?).bind Obj.row?).map (·.2)=some 240:=by kernel_rfl
theorem zPow:∃z,(((begin Tryz.prog (λ_ _=>0) default).world.heap[4]?).bind Obj.row?)=some (z,240):=by
  obtain⟨⟨z,t⟩,h,e⟩:=Option.map_eq_some_iff.1 zPow0
  cases e;exact⟨z,h⟩
theorem nPow:4<Tryz.prog.globals.size:=of_decide_eq_true (by kernel_rfl)
theorem lPow:Rows.laid_internal_strconv_uint64pow10=(.agg (Lib.pow10Tab.map λz=>DataW.lit (.int .u64 z)):DataW Unit):=by kernel_rfl
theorem cU:Tryz.prog.cellsOf 167=1:=by kernel_rfl
theorem uU:Tryz.prog.underlying 167=some (.int .u64):=by kernel_rfl
theorem cA:Tryz.prog.cellsOf 240=20:=by kernel_rfl
theorem kPow:Lib.pow10Tab.length=20:=by kernel_rfl
theorem trod_cons {H:Type}{enc:TypeId×Value->H}{P:Program}{w:World}{base:Nat}{sp:Nat->Bool}{hd:Bool}{t:TypeId}{ts:List TypeId}{vs:List Value}{ds:List (DataW H)}{ps:List MemPlace}(h:DataW.TrodAll enc P w base sp hd (t::ts) vs ds ps):∃v vs' d ds' p q,vs=v::vs'∧ds=d::ds'∧DataW.Trod enc P w base sp hd t v d p∧DataW.TrodAll enc P w base sp hd ts vs' ds' q:=by
  match vs,ds,h with
  | v::vs',d::ds',h=>
    obtain⟨p,q,h1,h2,_⟩:=h
    exact⟨v,vs',d,ds',p,q,rfl,rfl,h1,h2⟩
theorem trod_end {H:Type}{enc:TypeId×Value->H}{P:Program}{w:World}{base:Nat}{sp:Nat->Bool}{hd:Bool}{vs:List Value}{ds:List (DataW H)}{ps:List MemPlace}(h:DataW.TrodAll enc P w base sp hd [] vs ds ps):vs=[]∧ds=[]:=by
  match vs,ds,h with
  |[],[],_=>exact⟨rfl,rfl⟩
theorem all_again {H:Type}{enc:TypeId×Value->H}{W W':World}{sp':Nat->Bool}(k:Ext W W'):∀{ts:List TypeId} {vs:List Value} {ds:List (DataW H)} {ps:List MemPlace},
    (∀t∈ts,Tryz.prog.readableRec t=true∧t<Tryz.prog.types.size)->DataW.TrodAll enc Tryz.prog W 0 (λ_=>true) true ts vs ds ps->(∀p∈ps,p.block<W.heap.size)->(∀p∈ps,sp' p.block=true)->DataW.TrodAll enc Tryz.prog W' 0 sp' true ts vs ds ps
  |[],[],[],_,_,h,_,_=>h
  | t::ts,v::vs,d::ds,ps,hr,h,hl,hs=>by
    obtain⟨p,q,h1,h2,rfl⟩:=h
    refine⟨p,q,WideElems.Trod_stays cLaid (hr t (by simp)).1 (hr t (by simp)).2 h1 (λx hx=>?_) (λx hx=>hs x (by simp[hx])),all_again k (λu hu=>hr u (by simp[hu])) h2 (λx hx=>hl x (by simp[hx])) (λx hx=>hs x (by simp[hx])),rfl⟩
    have hb:=hl x (by simp[hx])
    cases x with
    |cell b o=>exact World.cell?_of_block (k.block b hb)
    |map b=>exact k.block b hb
  |[],[],_::_,_,_,h,_,_=>h.elim
  |[],_::_,_,_,_,h,_,_=>h.elim
  |_::_,[],_,_,_,h,_,_=>h.elim
  |_::_,_::_,[],_,_,h,_,_=>h.elim
theorem wf64 {n:Int}(h:(Lit.int .i64 n).wf=true):In64 n:=by
  simp only[Lit.wf,Bool.and_eq_true,decide_eq_true_eq]at h
  have e1:IntKind.i64.min=-9223372036854775808:=rfl
  have e2:IntKind.i64.max=9223372036854775807:=rfl
  rw[e1,e2]at h
  unfold In64;omega
section
variable {H:Type}{enc:TypeId×Value->H}{W:World}{base fuel b0:Nat}{x:DataW H×List MemPlace}
set_option maxRecDepth 100000 in
theorem seven_of {v:Value}(hv:Value.okWide Tryz.prog W .any b0 22 v)(h:DataW.trod enc Tryz.prog W base (λ_=>true) true fuel 22 v.cells.toList=some x):
    ∃a b c d e f g:Int,v=.agg #[.int .i64 a,.int .i64 b,.int .i64 c,.int .i64 d,.int .i64 e,.int .i64 f,.int .i64 g]∧In64 a∧In64 b∧In64 c∧In64 d∧In64 e∧In64 f∧In64 g:=by
  unfold Value.okWide at hv
  rw[Tryz.underlying22]at hv
  obtain⟨cs,rfl,hs,_⟩:=hv
  rw[c2022]at hs
  obtain⟨xs,m,_,_,_,hl,hx⟩:=DataW.trod_array Tryz.underlying22 h
  have key:∀i u,i<7->cs.toList[i]? =some u->∃a,u=.int .i64 a∧In64 a:=by
    intro i u hi hu
    have h0:=hx i hi
    rw[c3,List.getElem?_eq_getElem (show i<xs.length by omega)]at h0
    obtain⟨a,ea,_,wa⟩:=DataW.trod_int Tryz.underlying3 h0
    refine⟨a,?_,wf64 wa⟩
    have e2:(((Value.agg cs).cells.toList.drop (i*1)).take 1)[0]? =some u:=by
      have hc:(Value.agg cs).cells=cs:=rfl
      rw[hc,Nat.mul_one,List.getElem?_take,if_pos (by decide),List.getElem?_drop,Nat.add_zero];exact hu
    rw[ea]at e2
    exact(Option.some.inj e2).symm
  obtain⟨l⟩:=cs
  match l,hs,key with
  | [u0,u1,u2,u3,u4,u5,u6],_,key=>
    obtain⟨a0,rfl,k0⟩:=key 0 u0 (by decide) rfl
    obtain⟨a1,rfl,k1⟩:=key 1 u1 (by decide) rfl
    obtain⟨a2,rfl,k2⟩:=key 2 u2 (by decide) rfl
    obtain⟨a3,rfl,k3⟩:=key 3 u3 (by decide) rfl
    obtain⟨a4,rfl,k4⟩:=key 4 u4 (by decide) rfl
    obtain⟨a5,rfl,k5⟩:=key 5 u5 (by decide) rfl
    obtain⟨a6,rfl,k6⟩:=key 6 u6 (by decide) rfl
    exact⟨a0,a1,a2,a3,a4,a5,a6,rfl,k0,k1,k2,k3,k4,k5,k6⟩
end
end Go.Proofs.YtinldhphnpflaaaGreatDoor
