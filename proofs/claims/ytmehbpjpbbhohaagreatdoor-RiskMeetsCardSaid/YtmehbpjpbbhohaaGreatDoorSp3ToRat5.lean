/- Part of the proof of a statement about risks. -/
import Derived.Test.YtmehbpjpbbhohaaGreatDoorRat1ToSp2
import Derived.Test.YtmehbpjpbbhohaaGreatDoorEngPToEngH
import Derived.Test.YtmehbpjpbbhohaaGreatDoorInt9ToRatS
set_option linter.all false
namespace Go.Proofs.YtmehbpjpbbhohaaGreatDoor
open Go Go.Eng Go.RowKit
attribute [local irreducible] wpListIn Code.wpIn Oper.wpIn Exit.then Exit.inBlock Exit.noGoto
set_option maxHeartbeats 40000000
theorem bk_last {T:Nat->N2}{m k:Nat}(h:SumR T m)(hk:k<=m):Bk 99 (lstP T k):=by
  cases k with
  |zero=>exact⟨by simp[lstP],by simp[lstP]⟩
  |succ p=>exact(h.bd p om).mono dc
set_option maxRecDepth 100000 in
theorem sum_ok {T:Nat->N2}{m gn b1 b2 sO pl:Nat}{lbn:Array Value}{w:World}(hR:SumR T m)(hS:Sc sO)(hB1:Blk w b1 177 #[S (nS (T 0).1),S (nS (T 0).2)])(hB2:Blk w b2 206 #[fv gn lbn])(hen:Enters Tryz.prog gn)(hn:∀k<m,∀W,Ext w W->CL gn (#[vN (T k),.int .i64 ((k+1:Nat):Int)]++lbn) W (Ret W λv _=>v=vN (T (k+1))))(ht:Tb w):
    CL 192 #[.agg #[.int .i64 pl,S (nS sO)],.func (.func 222) #[] #[pT b1,pT b2]] w (Ret w λv w'=>v=.agg #[S (nS ((resP T m).1)),S (nS ((resP T m).2))]):=by
 refine f_inM Tryz.func192 rfl ?_;refine go ?_;refine bx (λapl aqt aqc=>?_);have o4:=aqt.2;refine al inf1056 (λap2 aqj aqu=>?_);have⟨aqc,o4⟩:=be1 aqj.2 aqc o4;refine go ?_;have ap9:=Ext.drew ap2
 refine c_st2 hmix 7 (λe0 ls e W=>∃aol:Nat,∃aom:Nat,∃aon:Nat,(∀t,inB [5,6,7,10,11,12,13] t=false->e t=e0 t)∧(Ext w W)∧(ap2.heap.size<=W.heap.size)∧(ls 0=true->e 10=.agg #[.int .i64 pl,S (nS sO)])∧(ls 1=true->e 11=.agg #[S (nS 0),S (nS 0)])∧(ls 2=true->e 12=.agg #[.int .i64 pl,S (nS sO)])∧(ls 3=true->e 13=.agg #[S (nS 0),S (nS 0)])∧(ls 4=true->e 5=pT aol)∧(ls 5=true->e 6=pT aom)∧(ls 6=true->e 7=pT aon)∧(ls 4=true->ap2.heap.size<=aol)∧(ls 5=true->ap2.heap.size<=aom)∧(ls 6=true->ap2.heap.size<=aon)∧(ls 4=true->ls 5=true->aol≠aom)∧(ls 4=true->ls 6=true->aol≠aon)∧(ls 5=true->ls 6=true->aom≠aon)∧(Blk W (w.heap.size) 136 #[.int .i64 pl,S (nS sO)])∧(Blk W (apl.heap.size) 177 #[S ([]),S ([])])∧(ls 4=true->Blk W aol 177 #[S ([]),S ([])])∧(ls 5=true->Blk W aom 177 #[S ([]),S ([])])∧(ls 6=true->Blk W aon 4 #[.bool false])) ⟨0,0,0,(λ_ _=>rfl),(xt o4 ap9),(bz ap9),(ff rfl),(ff rfl),(ff rfl),(ff rfl),(ff rfl),(ff rfl),(ff rfl),(ff rfl),(ff rfl),(ff rfl),(λh _=>ff rfl h),(λh _=>ff rfl h),(λh _=>ff rfl h),(be ap9 aqc),(be ap9 aqu),(λh=>ff rfl h),(λh=>ff rfl h),(λh=>ff rfl h)⟩ (by kernel_rfl) (by kernel_rfl) ?_ ?_;refine⟨λasw _ aqk aqv aql aqw _=>?_,?_⟩
 obtain⟨aol,aom,aon,aqm,o4,zst,aot,aou,aov,aow,aox,aoy,aoz,ao0,ao1,ao2,ao3,ao4,ao5,r8,sc,aoq,aor,aos⟩:=aqv;obtain⟨asw,rfl⟩:=ovE aqm;have aqx:aqk 1=false:=(unl aql (i:=0) (j:=1) rfl aqw);have asz:aqk 3=false:=(unl aql (i:=1) (j:=3) rfl aqx);have as0:=bz o4;refine go ?_;exact⟨rfl,_,(act_put _ _ _ _ _).symm,aol,aom,aon,(same_upd rfl aqm),o4,om,(λ_=>rfl),aou,aov,aow,aox,aoy,aoz,ao0,ao1,ao2,ao3,ao4,ao5,(r8),(sc),(λaqy=>aoq aqy),(λaqz=>aor aqz),(λaq0=>aos aq0)⟩;refine⟨λaq1 _ aqn aq2 aq3 aq4 aq5=>?_,?_⟩;obtain⟨aol,aom,aon,aq6,o4,zst,aot,aou,aov,aow,aox,aoy,aoz,ao0,ao1,ao2,ao3,ao4,ao5,r8,sc,aoq,aor,aos⟩:=aq2;obtain⟨aq1,rfl⟩:=ovE aq6;have aq7:aqn 0=true:=(aq5 0 rfl);have as2:aqn 3=false:=(unl aq3 (i:=1) (j:=3) rfl aq4);have aq8:aq1 10=.agg #[.int .i64 pl,S (nS sO)]:=aot aq7;have as3:=bz o4;have ap3:=bt r8;have ap4:=bt sc;refine cl en1030 (spWhole0_ok hS (ht.ext o4)) ?_ (cons_eq aq8 (cons_eq rfl rfl));rintro _ _ aps rfl;have⟨r8,sc,o4⟩:=be2 aps.2 r8 sc o4;refine go ?_;exact⟨rfl,_,(act_put _ _ _ _ _).symm,aol,aom,aon,(same_upd rfl aq6),o4,om,aot,(λ_=>rfl),aov,aow,aox,aoy,aoz,ao0,ao1,ao2,ao3,ao4,ao5,(r8),(sc),(λaq9=>(be aps.2 (aoq aq9))),(λara=>(be aps.2 (aor ara))),(λarb=>(be aps.2 (aos arb)))⟩;refine⟨λas6 _ arc ard arf arh _=>?_,?_⟩
 obtain⟨aol,aom,aon,aqo,o4,zst,aot,aou,aov,aow,aox,aoy,aoz,ao0,ao1,ao2,ao3,ao4,ao5,r8,sc,aoq,aor,aos⟩:=ard;obtain⟨as6,rfl⟩:=ovE aqo;have as9:arc 3=false:=(unl arf (i:=2) (j:=3) rfl arh);have ata:=bz o4;refine go ?_;exact⟨rfl,_,(act_put _ _ _ _ _).symm,aol,aom,aon,(same_upd rfl aqo),o4,om,aot,aou,(λ_=>rfl),aow,aox,aoy,aoz,ao0,ao1,ao2,ao3,ao4,ao5,(r8),(sc),(λari=>aoq ari),(λarj=>aor arj),(λark=>aos ark)⟩;refine⟨λarl _ aqd arm arn _ aqp=>?_,?_⟩;obtain⟨aol,aom,aon,aro,o4,zst,aot,aou,aov,aow,aox,aoy,aoz,ao0,ao1,ao2,ao3,ao4,ao5,r8,sc,aoq,aor,aos⟩:=arm;obtain⟨arl,rfl⟩:=ovE aro;have arp:aqd 1=true:=(aqp 1 rfl);have atd:aqd 0=true:=(arn 1 0 rfl arp);have arq:aqd 2=true:=(aqp 2 rfl);have arr:arl 12=.agg #[.int .i64 pl,S (nS sO)]:=aov arq;have ate:=bz o4;have ap3:=bt r8;have ap4:=bt sc;refine cl en1030 (spWhole0_ok hS (ht.ext o4)) ?_ (cons_eq arr (cons_eq rfl rfl));rintro _ _ apt rfl;have⟨r8,sc,o4⟩:=be2 apt.2 r8 sc o4;refine go ?_;exact⟨rfl,_,(act_put _ _ _ _ _).symm,aol,aom,aon,(same_upd rfl aro),o4,om,aot,aou,aov,(λ_=>rfl),aox,aoy,aoz,ao0,ao1,ao2,ao3,ao4,ao5,(r8),(sc),(λars=>(be apt.2 (aoq ars))),(λart=>(be apt.2 (aor art))),(λaru=>(be apt.2 (aos aru)))⟩;refine⟨λath arv _ arw _ _ _=>?_,?_⟩
 obtain⟨aol,aom,aon,arx,o4,zst,aot,aou,aov,aow,aox,aoy,aoz,ao0,ao1,ao2,ao3,ao4,ao5,r8,sc,aoq,aor,aos⟩:=arw;obtain⟨ath,rfl⟩:=ovE arx;have atm:=bz o4;have ap3:=bt r8;have ap4:=bt sc;refine al inf1056 (λ_ ap5 ary=>?_);have⟨r8,sc,o4⟩:=be2 ap5.2 r8 sc o4;refine go ?_;exact⟨rfl,_,(act_put _ _ _ _ _).symm,arv.heap.size,aom,aon,(same_upd rfl arx),o4,om,aot,aou,aov,aow,(λ_=>rfl),aoy,aoz,(λ_=>om),ao1,ao2,(λ_ arz=>(by have:=bt (aor arz);omega)),(λ_ ar0=>(by have:=bt (aos ar0);omega)),ao5,(r8),(sc),(λ_=>ary),(λar1=>(be ap5.2 (aor ar1))),(λar2=>(be ap5.2 (aos ar2)))⟩;refine⟨λatp ar3 _ ar4 _ _ _=>?_,?_⟩;obtain⟨aol,aom,aon,ar5,o4,zst,aot,aou,aov,aow,aox,aoy,aoz,ao0,ao1,ao2,ao3,ao4,ao5,r8,sc,aoq,aor,aos⟩:=ar4;obtain⟨atp,rfl⟩:=ovE ar5;have atv:=bz o4;have ap3:=bt r8;have ap4:=bt sc;refine al inf1056 (λ_ ap6 ar6=>?_);have⟨r8,sc,o4⟩:=be2 ap6.2 r8 sc o4;refine go ?_;exact⟨rfl,_,(act_put _ _ _ _ _).symm,aol,ar3.heap.size,aon,(same_upd rfl ar5),o4,om,aot,aou,aov,aow,aox,(λ_=>rfl),aoz,ao0,(λ_=>om),ao2,(λar7 _=>(by have:=bt (aoq ar7);omega)),ao4,(λ_ ar8=>(by have:=bt (aos ar8);omega)),(r8),(sc),(λar9=>(be ap6.2 (aoq ar9))),(λ_=>ar6),(λasa=>(be ap6.2 (aos asa)))⟩;refine⟨λaty asb _ asc _ _ _=>?_,?_⟩
 obtain⟨aol,aom,aon,asd,o4,zst,aot,aou,aov,aow,aox,aoy,aoz,ao0,ao1,ao2,ao3,ao4,ao5,r8,sc,aoq,aor,aos⟩:=asc;obtain⟨aty,rfl⟩:=ovE asd;have at3:=bz o4;have ap3:=bt r8;have ap4:=bt sc;refine al inf4 (λ_ ap7 ase=>?_);have⟨r8,sc,o4⟩:=be2 ap7.2 r8 sc o4;refine go ?_;exact⟨rfl,_,(act_put _ _ _ _ _).symm,aol,aom,asb.heap.size,(same_upd rfl asd),o4,om,aot,aou,aov,aow,aox,aoy,(λ_=>rfl),ao0,ao1,(λ_=>om),ao3,(λasf _=>(by have:=bt (aoq asf);omega)),(λasg _=>(by have:=bt (aor asg);omega)),(r8),(sc),(λash=>(be ap7.2 (aoq ash))),(λasi=>(be ap7.2 (aor asi))),(λ_=>ase)⟩;exact trivial;intro apg _ _ aop asj;obtain⟨aol,aom,aon,aqe,o4,zst,aot,aou,aov,aow,aox,aoy,aoz,ao0,ao1,ao2,ao3,ao4,ao5,r8,sc,aoq,aor,aos⟩:=asj;obtain⟨apg,rfl⟩:=ovE aqe;have at9:=bz o4;have aua:=ao0 (aop 4 rfl);have aub:=ao1 (aop 5 rfl);have auc:=ao2 (aop 6 rfl);have aud:=ao3 (aop 4 rfl) (aop 5 rfl);have aue:=ao4 (aop 4 rfl) (aop 6 rfl);have auf:=ao5 (aop 5 rfl) (aop 6 rfl);have ap3:=bt r8;have ap4:=bt sc;have aqq:=aoq (aop 4 rfl);have aug:=bt aqq;have aqa:=aor (aop 5 rfl);have auh:=bt aqa;have apu:=aos (aop 6 rfl);have aui:=bt apu;have apv:apg 5=pT aol:=(aox (aop 4 rfl));have ask:apg 11=.agg #[S (nS 0),S (nS 0)]:=(aou (aop 1 rfl));refine SA aqq (λ_ apw ao6=>?_);have⟨r8,sc,aqa,apu,o4,_⟩:=pl4 apw r8 sc aqa apu o4
 have aqf:apg 6=pT aom:=(aoy (aop 5 rfl));have asl:apg 13=.agg #[S (nS 0),S (nS 0)]:=(aow (aop 3 rfl));refine SA aqa (λ_ apx aph=>?_);have⟨r8,sc,ao6,apu,o4,_⟩:=pl4 apx r8 sc ao6 apu o4;have aqg:apg 7=pT aon:=(aoz (aop 6 rfl));refine SO apu (λap8 apy apz=>?_);have⟨r8,sc,ao6,aph,o4,_⟩:=pl4 apy r8 sc ao6 aph o4;refine go ?_;refine l_op (k_makeFunc (vf:=[]) (vc:=[pT aon,pT aom]) rfl (cons_eq aqg (cons_eq aqf rfl)) ?_);refine al inf1136 (λ_ ap0 asm=>?_);have⟨r8,sc,ao6,aph,apz,o4⟩:=be5 ap0.2 r8 sc ao6 aph apz o4;refine SO asm (λaqb apm aqr=>?_);have⟨r8,sc,ao6,aph,apz,o4,_⟩:=pl5 apm r8 sc ao6 aph apz o4;refine go ?_;have auq:=bt ao6;have aur:=bt aph;have aus:=bt apz;have aut:=bt r8;have auu:=bt sc;have auv:=bt aqr
 refine c_rangeM (M:=m+1) (enc:=λk=>[vN (T k)]) (bs:=[aol,aom,aon]) (Kq:=λW=>Ext w W) (gf:=222) (lb:=[pT b1,pT b2]) (ps:=[16]) rfl en1113 (terms_iter (T:=T) (m:=m) o4 hB1 hB2 ?hbs hen (by have:=hR.lt;omega) hn) ⟨λkx E=>xt E kx,λkx hb E=>plw kx E⟩ (λ_=>rfl) (λk W=>k<=m∧aqb.heap.size<=W.heap.size∧(Ext w W)∧(Blk W aol 177 #[S (nS ((totP T k).1)),S (nS ((totP T k).2))])∧(Blk W aom 177 #[S (nS ((lstP T k).1)),S (nS ((lstP T k).2))])∧(Blk W aon 4 #[.bool (decide (k≠0))])∧(Blk W (w.heap.size) 136 #[.int .i64 pl,S (nS sO)])∧(Blk W (apl.heap.size) 177 #[S ([]),S ([])])∧(Blk W (ap8.heap.size) 233 #[.func (.func 221) #[] #[pT aon,pT aom]])) (λc k W=>c=.exit 0∧aqb.heap.size<=W.heap.size∧(Ext w W)∧(Blk W aol 177 #[S (nS ((resP T m).1)),S (nS ((resP T m).2))])∧(Blk W (w.heap.size) 136 #[.int .i64 pl,S (nS sO)])∧(Blk W (apl.heap.size) 177 #[S ([]),S ([])])∧(Blk W (ap8.heap.size) 233 #[.func (.func 221) #[] #[pT aon,pT aom]])) (λk=>⟨λkx ⟨q1,zl,E,h0,h1,h2,h3,h4,h5⟩=>⟨q1,Nat.le_trans zl (bz kx),xt E kx,be kx h0,be kx h1,be kx h2,be kx h3,be kx h4,be kx h5⟩,λkx hb ⟨q1,zl,E,h0,h1,h2,h3,h4,h5⟩=>⟨q1,(by rw[kx.size];exact zl),plw kx E,pb kx h0,pb kx h1,pb kx h2,pb kx h3,pb kx h4,pb kx h5⟩⟩) (λc k=>⟨λkx ⟨q1,zl,E,h0,h1,h2,h3⟩=>⟨q1,Nat.le_trans zl (bz kx),xt E kx,be kx h0,be kx h1,be kx h2,be kx h3⟩,λkx hb ⟨q1,zl,E,h0,h1,h2,h3⟩=>⟨q1,(by rw[kx.size];exact zl),plw kx E,pb kx h0,pb kx h1,pb kx h2,pb kx h3⟩⟩) (λk W h=>by have:=h.1;omega) ?h0 (λe k e' W=>∃nb:Nat,e'=upd (updL e [16] [vN (T k)]) 9 (pT nb)∧aqb.heap.size<=nb∧Blk W nb 177 #[S (nS (T k).1),S (nS (T k).2)]∧(λk W=>k<=m∧aqb.heap.size<=W.heap.size∧(Ext w W)∧(Blk W aol 177 #[S (nS ((totP T k).1)),S (nS ((totP T k).2))])∧(Blk W aom 177 #[S (nS ((lstP T k).1)),S (nS ((lstP T k).2))])∧(Blk W aon 4 #[.bool (decide (k≠0))])∧(Blk W (w.heap.size) 136 #[.int .i64 pl,S (nS sO)])∧(Blk W (apl.heap.size) 177 #[S ([]),S ([])])∧(Blk W (ap8.heap.size) 233 #[.func (.func 221) #[] #[pT aon,pT aom]])) k W) ?hA ?asn ?body ?stop
 case hbs=>
  intro b hb;simp only[List.mem_cons,List.not_mem_nil,or_false]at hb;rcases hb with rfl|rfl|rfl <;>constructor <;>omega
 case h0=>
  exact⟨Nat.zero_le _,Nat.le_refl _,o4,ao6,aph,apz,r8,sc,aqr⟩
 case hA=>
  rintro k e' W b r r' hb hl ⟨nb,he,hnb,hbn,q1,zl,E,h0,h1,h2,h3,h4,h5⟩;have kx:=put_putObj W b (.loop r');have hne:∀{c t cs},Blk W c t cs->c≠b:=λh e=>by subst e;unfold Blk at h;rw[hl]at h;cases h
  exact⟨nb,he,hnb,Put.blk kx (hne hbn) hbn,q1,(by rw[kx.size];exact zl),plw kx E,Put.blk kx (hne h0) h0,Put.blk kx (hne h1) h1,Put.blk kx (hne h2) h2,Put.blk kx (hne h3) h3,Put.blk kx (hne h4) h4,Put.blk kx (hne h5) h5⟩
 case asn=>
  rintro l k W K ⟨q1,zl,E,h0,h1,h2,h3,h4,h5⟩ hK;have EW:=Ext.refl W;refine go ?_;refine al inf1056 (λ_ api asp=>?_);have h0:=be api.2 h0;have h1:=be api.2 h1;have h2:=be api.2 h2;have h3:=be api.2 h3;have h4:=be api.2 h4;have h5:=be api.2 h5;have E:=xt E api.2;have EW:=xt EW api.2;refine SA asp (λ_ ao7 asq=>?_);have h0:=pb ao7 h0;have h1:=pb ao7 h1;have h2:=pb ao7 h2;have h3:=pb ao7 h3;have h4:=pb ao7 h4;have h5:=pb ao7 h5;have E:=plw ao7 E;have auy:=psz ao7;have EW:=plw ao7 EW;refine go ?_;exact hK _ _ EW ⟨_,rfl,om,asq,q1,(by have:=bz EW;omega),E,h0,h1,h2,h3,h4,h5⟩
 case body=>
  rintro l k e' W ⟨nb,rfl,hnb,hbn,q1,zl,E,h0,h1,h2,h3,h4,h5⟩;have Kp:=Keeps.refl [aol,aom,aon] W;have zW:=bz E;have hkm:=q1;have znb:=bt hbn;have hc0:=Blk.isCells h0;have hc1:=Blk.isCells h1;have hc2:=Blk.isCells h2;have fT1:Bk 99 (plP (totP T k) (T k)):=hR.tot (k:=k+1) om;refine go ?_;refine clb en1078 (hc:=spPlus_ok (fT1.fi dc).1 (fT1.fi dc).2 (ht.ext E)) (hk:=?_);rintro _ _ ao8 rfl;have h0:=be ao8.2 h0;have h1:=be ao8.2 h1;have h2:=be ao8.2 h2;have h3:=be ao8.2 h3;have h4:=be ao8.2 h4;have h5:=be ao8.2 h5;have hbn:=be ao8.2 hbn;have E:=xt E ao8.2;have Kp:=Keeps.ext Kp ao8.2;refine SA h0 (λ_ ao9 aoo=>?_);have h1:=pb ao9 h1;have h2:=pb ao9 h2;have h3:=pb ao9 h3;have h4:=pb ao9 h4;have h5:=pb ao9 h5;have hbn:=pb ao9 hbn;have E:=plw ao9 E;have Kp:=Keeps.put Kp ao9 (by first|exact Or.inr om|exact Or.inl (by simp));have au2:=psz ao9;refine go ?_;refine l_op (clV (vs:=[.agg #[S (nS ((T k).1)),S (nS ((T k).2))]]) (lb:=[pT aon,pT aom]) en1112 rfl rfl (cB (last_ok h2 h1 ((hR.bd k hkm).mono dc) (bk_last hR hkm) (ht.ext E)) (hR.last hkm)) ?_);rintro _ _ apa rfl;have aoo:=be apa.2 aoo;have h1:=be apa.2 h1;have h2:=be apa.2 h2
  have h3:=be apa.2 h3;have h4:=be apa.2 h4;have h5:=be apa.2 h5;have hbn:=be apa.2 hbn;have E:=xt E apa.2;have Kp:=Keeps.ext Kp apa.2;refine go ?_;by_cases aqh:k=m;refine go ?_;refine c_an 5 ?_;refine sf ?_;refine sf_ae (V:=S (nS (((T k).2)+4))) (λ_ _ apj _=>?_) ?_;refine clb en1045 (hc:=nAdd_ok rfl lit4 (by have:=fT1.2;have:=(hR.bd k hkm).2;simp only[plP]at *;unfold Fi;omega) (ht.ext (xt E apj))) (hk:=?_);rintro _ _ apk rfl;have ass:=apk.2;refine go ?_;exact fs ⟨ass,rfl⟩;refine sf ?_;intro _ _ apb _;have aoo:=be apb.2 aoo;have h1:=be apb.2 h1;have h2:=be apb.2 h2;have h3:=be apb.2 h3;have h4:=be apb.2 h4;have h5:=be apb.2 h5;have hbn:=be apb.2 hbn;have E:=xt E apb.2;have Kp:=Keeps.ext Kp apb.2;refine clb en1045 (hc:=nAdd_ok rfl rfl (by have:=fT1.2;have:=(hR.bd k hkm).2;simp only[plP]at *;unfold Fi;omega) (ht.ext E)) (hk:=?_);rintro _ _ apc rfl;have aoo:=be apc.2 aoo;have h1:=be apc.2 h1;have h2:=be apc.2 h2;have h3:=be apc.2 h3;have h4:=be apc.2 h4;have h5:=be apc.2 h5;have hbn:=be apc.2 hbn;have E:=xt E apc.2;have Kp:=Keeps.ext Kp apc.2;refine go ?_;refine SO aoo (λ_ apd ast=>?_);have h1:=pb apd h1;have h2:=pb apd h2;have h3:=pb apd h3;have h4:=pb apd h4;have h5:=pb apd h5
  have hbn:=pb apd hbn;have E:=plw apd E;have Kp:=Keeps.put Kp apd (by first|exact Or.inr om|exact Or.inl (by simp));have avs:=psz apd;refine go ?_;exact⟨Kp.others (by intro b hb;simp only[List.mem_cons,List.not_mem_nil,or_false]at hb;rcases hb with rfl|rfl|rfl;exact hc0;exact hc1;exact hc2),rfl,(by have:=Kp.size;omega),E,(by subst aqh;exact ast),h3,h4,h5⟩;refine go ?_;refine SA h1 (λ_ ape aqi=>?_);have aoo:=pb ape aoo;have h2:=pb ape h2;have h3:=pb ape h3;have h4:=pb ape h4;have h5:=pb ape h5;have hbn:=pb ape hbn;have E:=plw ape E;have Kp:=Keeps.put Kp ape (by first|exact Or.inr om|exact Or.inl (by simp));have avu:=psz ape;refine SO h2 (λ_ apf asu=>?_);have aoo:=pb apf aoo;have aqi:=pb apf aqi;have h3:=pb apf h3;have h4:=pb apf h4;have h5:=pb apf h5;have hbn:=pb apf hbn;have E:=plw apf E;have Kp:=Keeps.put Kp apf (by first|exact Or.inr om|exact Or.inl (by simp));have avw:=psz apf;refine go ?_;exact⟨Kp.others (by intro b hb;simp only[List.mem_cons,List.not_mem_nil,or_false]at hb;rcases hb with rfl|rfl|rfl;exact hc0;exact hc1;exact hc2),KpC.of Kp,λ_=>E,om,(by have:=Kp.size;omega),E,aoo,aqi,(by rw[decide_eq_true om];exact asu),h3,h4,h5⟩
 case stop=>
  rintro D c k W hD ⟨rfl,zl,E,h0,h1,h2,h3⟩ hK;have zW:=bz E;refine go ?_;refine SA h2 (λ_ ap1 asv=>?_);have h0:=pb ap1 h0;have h1:=pb ap1 h1;have h3:=pb ap1 h3;have hK:=Dfr.put ap1 (hK.ne h2) hK;have E:=plw ap1 E;have avy:=psz ap1;refine go ?_;refine f_outM (v:=.agg #[S (nS ((resP T m).1)),S (nS ((resP T m).2))]) hK (res1  rfl ?_) ((put_dfr _).low E om) rfl;refine res_cellA (t:=4) (cs:=[S (nS ((resP T m).1)),S (nS ((resP T m).2))]) (b:=apl.heap.size) (o:=0) U1056 rfl sz1056 ?_ ?_;exact rfl;exact Blk.cells (asv.dfr hK) (i:=0) rfl
set_option maxRecDepth 100000
theorem cP {f:FuncId}{a:Array Value}{w:World}{p q:N2}(h:CL f a w (Ret w λv _=>v=.agg #[S (nS p.1),S (nS p.2)]))(e:p=q):CL f a w (Ret w λv _=>v=.agg #[S (nS q.1),S (nS q.2)]):=e▸h
theorem cmp_gt0 {a b:Nat}(h:b<a):0<cmpI (a:Int) (b:Int):=by rw[cmpI_gt om];decide
theorem cmp_gt1 {a b:Nat}(h:¬b<a):¬0<cmpI (a:Int) (b:Int):=by have:=(cmpI_nonpos (x:=(a:Int)) (y:=(b:Int))).2 om;omega
theorem exp1_ok {sO pl n b1 b2:Nat}{t x:N2}{w:World}(hS:Sc sO)(hb1:Blk w b1 136 #[.int .i64 pl,S (nS sO)])(hb2:Blk w b2 177 #[S (nS x.1),S (nS x.2)])(htb:Bk 95 t)(hx:Bk 95 x)(h0:0<n)(hn:n<100000)(ht:Tb w):
    CL 223 #[.agg #[S (nS t.1),S (nS t.2)],.int .i64 n,pT b1,pT b2] w (Ret w λv w'=>v=.agg #[S (nS ((expN sO x n t).1)),S (nS ((expN sO x n t).2))]):=by
 have zb1:=bt hb1;have zb2:=bt hb2;refine f_in Tryz.func223 rfl ?_;refine go ?_;refine bx (λaox aow o4=>?_);have⟨hb1,hb2⟩:=bf2 aow.2 hb1 hb2;have sc:=aow.2;refine al inf1056 (λ_ aoq r8=>?_);have⟨hb1,hb2,o4,sc⟩:=be3 aoq.2 hb1 hb2 o4 sc;refine go ?_;refine c_an 6 ?_;refine sf ?_;refine sf_ae (V:=.agg #[S (nS ((tmP sO t x).1)),S (nS ((tmP sO t x).2))]) (λ_ _ aol _=>?_) ?_;refine cl en1074 (spTimes_ok hS htb hx (ht.ext (xt sc aol))) ?_;rintro _ _ aom rfl;have aoy:=aom.2;refine go ?_;exact fs ⟨aoy,rfl⟩;refine sf ?_;intro _ _ aon _;have⟨hb1,hb2,o4,r8,sc⟩:=be4 aon.2 hb1 hb2 o4 r8 sc;refine clb en1070 (hc:=spBy_ok (tmP_bd hS.pos htb hx) dc om om (ht.ext sc)) (hk:=?_);rintro _ _ aoo rfl;have⟨hb1,hb2,o4,r8,sc⟩:=be4 aoo.2 hb1 hb2 o4 r8 sc;refine SA r8 (λ_ aop aoz=>?_);have⟨hb1,hb2,o4,sc,_⟩:=pl3 aop hb1 hb2 o4 sc;refine go ?_;refine f_out (v:=.agg #[S (nS ((byP (tmP sO t x) 1 n).1)),S (nS ((byP (tmP sO t x) 1 n).2))]) (res1  rfl ?_) sc rfl;refine res_cellA (t:=6) (cs:=[S (nS ((byP (tmP sO t x) 1 n).1)),S (nS ((byP (tmP sO t x) 1 n).2))]) (b:=aox.heap.size) (o:=0) U1056 rfl sz1056 ?_ ?_;exact rfl;exact Blk.cells aoz (i:=0) rfl
theorem hn1_ok {sO pl n b1 b2:Nat}{t x:N2}{w:World}(hS:Sc sO)(hb1:Blk w b1 136 #[.int .i64 pl,S (nS sO)])(hb2:Blk w b2 177 #[S (nS x.1),S (nS x.2)])(htb:Bk 95 t)(hx:Bk 95 x)(h0:0<n)(hn:n<100000)(ht:Tb w):
    CL 194 #[.agg #[S (nS t.1),S (nS t.2)],.int .i64 n,pT b1,pT b2] w (Ret w λv w'=>v=.agg #[S (nS ((hnN sO x n t).1)),S (nS ((hnN sO x n t).2))]):=by
 have zb1:=bt hb1;have zb2:=bt hb2;refine f_in Tryz.func194 rfl ?_;refine go ?_;refine bx (λaoz aoy o4=>?_);have⟨hb1,hb2⟩:=bf2 aoy.2 hb1 hb2;have sc:=aoy.2;refine al inf1056 (λ_ aoq r8=>?_);have⟨hb1,hb2,o4,sc⟩:=be3 aoq.2 hb1 hb2 o4 sc;refine go ?_;refine c_an 8 ?_;refine sf ?_;refine sf_ae (V:=.agg #[S (nS ((tmP sO t x).1)),S (nS ((tmP sO t x).2))]) (λ_ _ aol _=>?_) ?_;refine cl en1074 (spTimes_ok hS htb hx (ht.ext (xt sc aol))) ?_;rintro _ _ aom rfl;have ao0:=aom.2;refine go ?_;exact fs ⟨ao0,rfl⟩;refine sf ?_;refine sf_ap (λ_ _ _ _=>by refine l_op (k_mul (a:=2) (b:=(n:Int)) (c:=((2*n:Nat):Int)) rfl rfl (by unfold In64;omega) om ?_);refine go ?_;exact finp) ?_;refine sf_ap (λ_ _ _ _=>by refine l_op (k_add (a:=((2*n:Nat):Int)) (b:=1) (c:=((2*n+1:Nat):Int)) rfl rfl (by unfold In64;omega) om ?_);refine go ?_;exact finp) ?_;refine sf ?_;intro _ _ aon _;have⟨hb1,hb2,o4,r8,sc⟩:=be4 aon.2 hb1 hb2 o4 r8 sc;refine clb en1070 (hc:=spBy_ok (tmP_bd hS.pos htb hx) dc om om (ht.ext sc)) (hk:=?_);rintro _ _ aoo rfl;have⟨hb1,hb2,o4,r8,sc⟩:=be4 aoo.2 hb1 hb2 o4 r8 sc;refine SA r8 (λ_ aop ao1=>?_);have⟨hb1,hb2,o4,sc,_⟩:=pl3 aop hb1 hb2 o4 sc;refine go ?_;refine f_out (v:=.agg #[S (nS ((byP (tmP sO t x) 1 (2*n+1)).1)),S (nS ((byP (tmP sO t x) 1 (2*n+1)).2))]) (res1  rfl ?_) sc rfl
 refine res_cellA (t:=6) (cs:=[S (nS ((byP (tmP sO t x) 1 (2*n+1)).1)),S (nS ((byP (tmP sO t x) 1 (2*n+1)).2))]) (b:=aoz.heap.size) (o:=0) U1056 rfl sz1056 ?_ ?_;exact rfl;exact Blk.cells ao1 (i:=0) rfl
theorem half_le {S:Nat}:∀{f h:Nat} {x:N2} {p:N2×Nat},halfF S f x h=some p->p.2<=h+f
  |0,_,_,_,e=>by simp[halfF]at e
  | f+1,h,x,p,e=>by
    unfold halfF at e
    split at e
    · have:=half_le e;omega
    · cases e;simp
set_option maxRecDepth 100000 in
theorem exp_ok {sO pl:Nat}{x r:N2}{w:World}(hS:Sc sO)(he:expP sO x=some r)(ht:Tb w):
    CL 197 #[.agg #[.int .i64 pl,S (nS sO)],.agg #[S (nS x.1),S (nS x.2)]] w (Ret w λv w'=>v=.agg #[S (nS r.1),S (nS r.2)]):=by
 obtain⟨hx,p,s,hp,hs,hq⟩:=exp_inv he;have hp2:=half_le hp;refine f_in Tryz.func197 rfl ?_;refine go ?_;refine bx (λaol apy o4=>?_);have aop:=apy.2;refine bx (λaow apv apd=>?_);have⟨o4,aop⟩:=be1 apv.2 o4 aop;refine al inf1056 (λapz ape r8=>?_);have⟨o4,apd,aop⟩:=be2 ape.2 o4 apd aop;refine go ?_;refine c_lp [(5,5),(7,18)] (λkk e W=>∃f:Nat,∃y:N2,∃h:Nat,(f=kk)∧(e 5=.int .i64 h)∧(halfF sO f y h=some p)∧(Bk 95 y)∧(h+f<=200)∧(apz.heap.size<=W.heap.size)∧(Ext w W)∧(Blk W (w.heap.size) 136 #[.int .i64 pl,S (nS sO)])∧(Blk W (aow.heap.size) 177 #[S ([]),S ([])])∧(Blk W (aol.heap.size) 177 #[S (nS y.1),S (nS y.2)])) ((200)) ⟨200,x,0,rfl,rfl,hp,hx,om,(Nat.le_refl _),aop,o4,r8,apd⟩ ?_;rintro _ _ _ ⟨f,y,h,rfl,apw,hh,hy,hb,aql,sc,o4,r8,hbx⟩;have aqm:=bz sc;by_cases hl:sO<y.2*2;obtain⟨g,rfl,hh2⟩:=half_t hh hl;refine go ?_;refine c_an 5 ?_;refine sf ?_;refine sf_ae (V:=S (nS (y.2*2))) (λ_ _ aox _=>?_) ?_;refine clb en1043 (hc:=nMul_ok rfl lit2 (hy.fi dc).2 (fi_pow (k:=1) dc dc) (by have:=hy.2;unfold Fi;omega) (ht.ext (xt sc aox))) (hk:=?_);rintro _ _ aoy rfl;have ap0:=aoy.2;refine go ?_;exact fs ⟨ap0,rfl⟩;refine sf ?_;intro _ _ aoz _;have⟨o4,r8,hbx,sc⟩:=be3 aoz.2 o4 r8 hbx sc;refine clb en84 (hc:=cmpN rfl rfl (by have:=hy.2;unfold Fi;omega) hS.fi) (hk:=?_);rintro _ _ ao0 rfl;have⟨o4,r8,hbx,sc⟩:=be3 ao0.2 o4 r8 hbx sc
 have zq1q:=cmp_gt0 hl;refine go ?_;refine clb en1070 (hc:=spBy_ok (hy.mono dc) dc dc dc (ht.ext sc)) (hk:=?_);rintro _ _ ao1 rfl;have⟨o4,r8,hbx,sc⟩:=be3 ao1.2 o4 r8 hbx sc;refine SA hbx (λ_ ao2 ap1=>?_);have⟨o4,r8,sc,_⟩:=pl2 ao2 o4 r8 sc;refine go ?_;refine l_op (k_add (a:=(h:Int)) (b:=1) (c:=((h+1:Nat):Int)) rfl rfl (by unfold In64;omega) om ?_);refine go ?_;exact lend ⟨g,byP y 1 2,h+1,rfl,rfl,hh2,(half_bd hy),om,om,sc,o4,r8,ap1⟩;have hpe:=half_f hh hl;subst hpe;have hm:=sumP_inv hs;obtain⟨m,hR,hr⟩:=hm;refine go ?_;refine c_an 5 ?_;refine sf ?_;refine sf_ae (V:=S (nS (y.2*2))) (λ_ _ ao3 _=>?_) ?_;refine clb en1043 (hc:=nMul_ok rfl lit2 (hy.fi dc).2 (fi_pow (k:=1) dc dc) (by have:=hy.2;unfold Fi;omega) (ht.ext (xt sc ao3))) (hk:=?_);rintro _ _ ao4 rfl;have ap2:=ao4.2;refine go ?_;exact fs ⟨ap2,rfl⟩;refine sf ?_;intro _ _ ao5 _;have⟨o4,r8,hbx,sc⟩:=be3 ao5.2 o4 r8 hbx sc;refine clb en84 (hc:=cmpN rfl rfl (by have:=hy.2;unfold Fi;omega) hS.fi) (hk:=?_);rintro _ ap3 ao6 rfl;have⟨o4,r8,hbx,sc⟩:=be3 ao6.2 o4 r8 hbx sc;have zq2q:=cmp_gt1 hl;refine go ?_;refine c_an 7 ?_;refine sf ?_;refine sf_ae (V:=.agg #[S (nS ((1*sO,1*sO).1)),S (nS ((1*sO,1*sO).2))]) (λ_ _ ao7 _=>?_) ?_;refine clb en1030 (hc:=spWhole_ok (n:=1) hS dc (by rw[Nat.one_mul];exact hS.fi) (ht.ext (xt sc ao7))) (hk:=?_);rintro _ _ ao8 rfl;have ap4:=ao8.2;refine go ?_
 exact fs ⟨ap4,rfl⟩;refine sf_ap (λ_ _ _ _=>by refine l_op (k_makeFunc (vf:=[]) (vc:=[pT w.heap.size,pT aol.heap.size]) rfl rfl ?_);refine go ?_;exact finp) ?_;refine sf_ah (λv wz=>SeqV (1*sO,1*sO) (.func (.func 223) #[] #[pT w.heap.size,pT aol.heap.size]) wz v) (hs:=λ_ _ _ k h=>h.ext k) (λ_ _ _ _=>?_) ?_;refine cl en1072 terms_ok ?_;rintro _ _ ao9 hsq;have ap5:=ao9.2;refine go ?_;exact fs ⟨ap5,hsq⟩;refine sf_ae (V:=.agg #[S (nS s.1),S (nS s.2)]) (λ_ _ aoq ap6=>?_) ?_;obtain⟨_,_,ap9,aps,apt⟩:=(ap6 4 23 rfl rfl);have⟨o4,hbx⟩:=bf2 aoq o4 hbx;refine clb en1071 (hc:=cP (sum_ok hR hS aps apt en1073 (λk hk W e=>exp1_ok hS (o4.ext e) (hbx.ext e) (hR.bd k om) hy om (by have:=hR.lt;omega) ((ht.ext (xt sc aoq)).ext e)) (ht.ext (xt sc aoq))) hr) (hk:=?_) (hv:=cons_eq rfl (cons_eq ap9 rfl));rintro _ _ aon rfl;have aqa:=aon.2;refine go ?_;exact fs ⟨aqa,rfl⟩;refine sf_ah (λv wz=>∃b:Nat,v=pT b∧ap3.heap.size<=b∧Blk wz b 177 #[S ([]),S ([])]) (hs:=λ_ _ _ k ⟨b,e,l,h⟩=>⟨b,e,l,h.ext k⟩) (λ_ _ apa _=>?_) ?_;refine al inf1056 (λ_ apb aqb=>?_);have aqc:=apb.2;refine go ?_;exact fs ⟨aqc,⟨_,rfl,(by have:=bz apa;omega),aqb⟩⟩;refine sf ?_;intro _ _ apc aqd;have⟨o4,r8,hbx,sc⟩:=be3 apc.2 o4 r8 hbx sc;obtain⟨aoo,_,_,apx⟩:=(aqd 6 6 rfl rfl);have asv:=bt apx;refine SA apx (λaqe aos aqf=>?_)
 have⟨o4,r8,hbx,sc,_⟩:=pl3 aos o4 r8 hbx sc;refine go ?_;refine c_lp [(26,32)] (λkk e W=>∃i:Nat,∃a:N2,(h-i=kk)∧(e 26=.int .i64 i)∧(i<=h)∧(sqF sO (h-i) a=some r)∧(aqe.heap.size<=W.heap.size)∧(Ext w W)∧(Blk W (w.heap.size) 136 #[.int .i64 pl,S (nS sO)])∧(Blk W (aow.heap.size) 177 #[S ([]),S ([])])∧(Blk W (aol.heap.size) 177 #[S (nS y.1),S (nS y.2)])∧(Blk W aoo 177 #[S (nS a.1),S (nS a.2)])) (h-0) ⟨0,s,rfl,rfl,(Nat.zero_le _),hq,(Nat.le_refl _),sc,o4,r8,hbx,aqf⟩ ?_;rintro _ _ _ ⟨i,a,rfl,apu,hi,hq2,as0,aom,o4,r8,hbx,hbo⟩;have as1:=bz aom;by_cases hl2:i<h;obtain⟨ha,hq3⟩:=sq_t hq2 hl2;refine go ?_;refine cl en1074 (spTimes_ok hS ha ha (ht.ext aom)) ?_;rintro _ _ aot rfl;have⟨o4,r8,hbx,hbo,aom⟩:=be4 aot.2 o4 r8 hbx hbo aom;refine SA hbo (λ_ aou aqg=>?_);have⟨o4,r8,hbx,aom,_⟩:=pl3 aou o4 r8 hbx aom;refine go ?_;refine l_op (k_add (a:=(i:Int)) (b:=1) (c:=((i+1:Nat):Int)) apu rfl (by unfold In64;omega) om ?_);refine go ?_;exact lend ⟨i+1,tmP sO a a,rfl,rfl,om,hq3,om,aom,o4,r8,hbx,aqg⟩;obtain⟨rfl,_⟩:=sq_f hq2 hl2;refine go ?_;refine SA r8 (λ_ aov aqh=>?_);have⟨o4,hbx,hbo,aom,_⟩:=pl3 aov o4 hbx hbo aom;refine go ?_;refine f_out (v:=.agg #[S (nS a.1),S (nS a.2)]) (res1  rfl ?_) aom rfl;refine res_cellA (t:=4) (cs:=[S (nS a.1),S (nS a.2)]) (b:=aow.heap.size) (o:=0) U1056 rfl sz1056 ?_ ?_;exact rfl;exact Blk.cells aqh (i:=0) rfl
def limbs:Nat->Nat->Nat
  |0,_=>0
  |f+1,n=>if n=0 then 0 else limbs f (n/10000)+1
theorem limbs_eq:∀{f n:Nat},n<10000^f->(toB 10000 n).length=limbs f n
  |0,n,h=>by rw[show n=0 by simpa using h,toB_zero];rfl
  | f +1,n,h=>by
    unfold limbs
    split
    · rename_i h0;rw[h0,toB_zero];rfl
    · rename_i h0
      rw[toB_pos 10000 n om om,List.length_cons,limbs_eq (f:=f)]
      rw[Nat.pow_succ]at h
      exact Nat.div_lt_of_lt_mul (by rw[Nat.mul_comm];exact h)
def rtF:Nat->Nat->Nat->Option Nat
  |0,_,_=>none
  |f+1,n,t=>if t<=(t+n/t)/2 then some t else rtF f n ((t+n/t)/2)
def rtN (n:Nat):Option Nat:=rtF 1000 n (10000^((limbs 60 n+1)/2))
theorem rt_t {f n t r:Nat}(h:rtF f n t=some r)(hl:t<=(t+n/t)/2):r=t:=by
  cases f with
  |zero=>cases h
  |succ g=>unfold rtF at h;rw[if_pos hl]at h;cases h;rfl
theorem rt_f {f n t r:Nat}(h:rtF f n t=some r)(hl:¬t<=(t+n/t)/2):∃g,f=g+1∧rtF g n ((t+n/t)/2)=some r:=by
  cases f with
  |zero=>cases h
  |succ g=>unfold rtF at h;rw[if_neg hl]at h;exact⟨g,rfl,h⟩
theorem toB_pow (k:Nat):toB 10000 (10000^k)=List.replicate k 0++[1]:=by
  induction k with
  |zero=>decide
  | succ k ih=>
    rw[toB_pos 10000 _ om (Nat.pow_pos om),Nat.pow_succ,Nat.mul_mod_left,Nat.mul_div_cancel _ om,ih,List.replicate_succ,List.cons_append]
theorem num_pow {w:World}{lo k c:Nat}{A:Option Addr}(h:Rw w lo A ((madeCells (Value.int .i64 0).cells (k*1)).toList++[Value.int .i64 1]))(hc:k+1<=c):Num w lo A (k+1) c (10000^k):=by
  refine⟨?_,by rw[toB_pow];simp,hc⟩
  have e:(madeCells (Value.int .i64 0).cells (k*1)).toList++[Value.int .i64 1]=ints (toB 10000 (10000^k)):=by
    show(madeCells #[Value.int .i64 0] (k*1)).toList++_=_
    rw[made_ints,toB_pow];simp[ints]
  rw[<-e];exact h
theorem num_two {w:World}{lo:Nat}{A:Option Addr}(h:Rw w lo A [Value.int .i64 2]):Num w lo A 1 1 2:=by
  have e:toB 10000 2=[2]:=by decide
  exact⟨by rw[e];exact h,by rw[e];rfl,Nat.le_refl _⟩
theorem body_nS (n:Nat):body (nS n)=showN n:=by unfold nS;rw[body_showI];simp
theorem neg_nS (n:Nat):neg (nS n)=false:=by unfold nS;rw[neg_showI];exact decide_eq_false om
theorem bothN_ok {n:Nat}{w:World}(hn:Fi n):CL 88 #[S (nS n),S [48]] w (Ret w λv w'=>∃A1 n1 c1 A2 n2 c2,v=.tuple #[.agg #[.bool false,.slice A1 n1 c1],.agg #[.bool false,.slice A2 n2 c2],.bool true]∧Num w' w.heap.size A1 n1 c1 n∧Num w' w.heap.size A2 n2 c2 0):=by
  have h:=both_ok (nS n) [48] w hn.z.int isInt_zero
  rw[body_nS,neg_nS,valN_showN,show neg [48]=false from rfl,show valN (body [48])=0 from valN_zero]at h
  exact h
theorem fi50 {n:Nat}(h:Fi n):n<10000^50:=Nat.lt_of_lt_of_le h dc
theorem rt_sum {n t:Nat}(hn:n<10000^50)(ht:t<=10000^26):t+n/t<10000^51:=by
  have h1:n/t<=n:=Nat.div_le_self _ _
  have h2:(10000:Nat)^50+10000^26<10000^51:=by decide
  omega
theorem out_fit {t:Nat}(ht:t≤10000 ^ 26) : resI (outI (sgn false t))=.tuple #[S (nS t),.int .i64 0]:=by
  have h : fits (sgn false t) = true := decide_eq_true (by have h2:(10000:Nat)^26<10^200:=by decide
                                                           simp[sgn];omega)
  unfold outI;rw[if_pos h];rfl
theorem cmpI_swap0 {x y:Int}:(0<=cmpI x y)↔y<=x:=by
  unfold cmpI;split
  · constructor <;>intro h <;>omega
  · split
    · constructor <;>intro _ <;>omega
    · constructor <;>intro _ <;>omega
theorem cEqR {f:FuncId}{a:Array Value}{w:World}{X Y:Value}(h:CL f a w (Ret w λv _=>v=X))(e:X=Y):CL f a w (Ret w λv _=>v=Y):=e▸h
theorem rt_ge {x y:Nat}(h:(0:Int)<=cmpI (x:Int) (y:Int)):y<=x:=by
  rw[cmpI_swap0]at h
  omega
theorem rt_lt {x y:Nat}(h:¬(0:Int)<=cmpI (x:Int) (y:Int)):¬y<=x:=by
  rw[cmpI_swap0]at h
  omega
theorem rt_pos {n t:Nat}(hn:0<n)(ht:0<t):0<(t+n/t)/2:=by
  by_cases h:t=1
  · subst h;rw[Nat.div_one];omega
  · have h2:2<=t:=by omega
    exact Nat.div_pos (Nat.le_trans h2 (Nat.le_add_right _ _)) om
set_option maxRecDepth 100000 in
theorem root_ok {n r:Nat}{w:World}(fn:Fi n)(hn0:0<n)(hr:rtN n=some r)(ht:Tb w):
    CL 224 #[S (nS n)] w (Ret w λv w'=>v=.tuple #[S (nS r),.int .i64 0]):=by
 have hl60:(toB 10000 n).length=limbs 60 n:=limbs_eq (Nat.lt_of_lt_of_le (fi50 fn) (Nat.pow_le_pow_right dc dc));refine f_in Tryz.func224 rfl ?_;refine go ?_;refine cl en104 (bothN_ok fn) ?_;rintro _ aol apa ⟨A1,n1,c1,A2,n2,c2,rfl,hN,hz⟩;have sc:=apa.2;have uhN:=hN.hi;have l1:=num_len hN (fi50 fn);have p1:0<n1:=by rw[<-hN.len,List.length_pos_iff];exact λe=>by have:=ofB_toB 10000 om n;rw[e]at this;simp[ofB]at this;omega
 refine go ?_;refine al inf125 (λao0 ao5 ao1=>?_);have hN:=Num.ext ao5.2 hN;have sc:=xt sc ao5.2;refine al inf125 (λ_ ao2 ao3=>?_);have hN:=Num.ext ao2.2 hN;have⟨ao1,sc⟩:=be1 ao2.2 ao1 sc;refine SA ao1 (λ_ aow kx=>?_);have hN:=Num.putU aow (λad e=>by have:=uhN ad e;omega) hN;have⟨ao3,sc,_⟩:=pl1 aow ao3 sc;refine SA ao3 (λao4 aox o4=>?_);have hN:=Num.putU aox (λad e=>by have:=uhN ad e;omega) hN;have⟨kx,sc,_⟩:=pl1 aox kx sc;refine go ?_;refine l_op (k_add (a:=(n1:Int)) (b:=1) (c:=((n1+1:Nat):Int)) rfl rfl (by unfold In64;omega) om ?_);refine l_op (k_quo (a:=((n1+1:Nat):Int)) (b:=2) (c:=((((n1+1)/2):Nat):Int)) rfl rfl om om (by unfold In64;omega) om ?_);refine l_op (k_make (m:=((n1+1)/2)) U123 inf3 rfl rfl om (by simp only[maxLen];omega) (λ_ aos _ aot=>?_));have ao6:(.slice (some ⟨ao4.heap.size,0,none⟩) (((n1+1)/2)) (((n1+1)/2)):Value).ownBlock≠some (aol.heap.size):=λe=>by(have:=bt kx;simp only[Value.ownBlock,Option.map_some,Option.some.injEq]at e;omega)
 have ao7:(.slice (some ⟨ao4.heap.size,0,none⟩) (((n1+1)/2)) (((n1+1)/2)):Value).ownBlock≠some (ao0.heap.size):=λe=>by(have:=bt o4;simp only[Value.ownBlock,Option.map_some,Option.some.injEq]at e;omega)
 have hN:=Num.ext aos hN;have⟨kx,o4,sc⟩:=be2 aos kx o4 sc;have apn:=bz aos;refine BS (λ_ aoq _ apb=>?_);have apr:=own_ne_new aot;have hN:=Num.ext aoq hN;have⟨kx,o4⟩:=bf2 aoq kx o4;have aot:=own_ext aoq aot;have sc:=xt sc aoq;have aps:=bz aoq;refine AP aot (Rw.of_own apb) (λapc apd ao8 aou ao9=>?_);have apt:=own_ne_app ao9 ao6 (bt kx);have apu:=own_ne_app ao9 ao7 (bt o4);have hN:=Num.gr aou (λad e=>by have:=uhN ad e;simp[Value.ownBlock];omega) hN;have kx:=Blk.gr aou (λe=>ao6 e.symm) kx;have o4:=Blk.gr aou (λe=>ao7 e.symm) o4;have sc:=low_app aot om om sc aou;have apv:=aou.size;refine l_op (k_assign (v:=apc) rfl ?_);refine go ?_;obtain⟨At,ct,rfl,hct,-,-,-⟩:=own_form ao8;have hT:=num_pow (Rw.of_own ao8) hct;have hr0:rtF 1000 n (10000^((n1+1)/2))=some r:=by rw[<-hN.len,hl60];exact hr
 refine go ?_;refine c_lp [(2,3),(7,11),(32,60)] (λkk e W=>∃f:Nat,∃Ax:Option Addr,∃nx:Nat,∃cx:Nat,∃t:Nat,(f=kk)∧(e 7=.slice Ax nx cx)∧(rtF f n t=some r)∧(t<=10000^26)∧(0<t)∧(apd.heap.size<=W.heap.size)∧(Ext w W)∧(Num W w.heap.size A1 n1 c1 n)∧(Blk W (aol.heap.size) 108 #[.bool false,.slice A1 n1 c1])∧(Blk W (ao0.heap.size) 108 #[.bool false,.slice A2 n2 c2])∧(Num W w.heap.size Ax nx cx t)) ((1000)) ⟨1000,At,((n1+1)/2)+1,ct,10000^((n1+1)/2),rfl,rfl,hr0,(Nat.pow_le_pow_right dc om),(Nat.pow_pos dc),(Nat.le_refl _),sc,hN,kx,o4,(hT.mono om)⟩ ?_;rintro _ _ _ ⟨f,Ax,nx,cx,t,rfl,aoy,hf,htb,ht0,apz,r8,hN,kx,o4,hT⟩;have ap0:=bz r8;have lt:=num_len (k:=27) hT (Nat.lt_of_le_of_lt htb dc);have lN:=num_len hN (fi50 fn);refine go ?_;refine clb en105 (hc:=over_ok hN om hT om ht0) (hk:=?_);rintro _ _ aov ⟨Aq,nq,cq,Ar,nr,cr,rfl,hQ,hRr⟩;have hN:=Num.ext aov.2 hN;have⟨kx,o4⟩:=bf2 aov.2 kx o4;have hT:=Num.ext aov.2 hT;have r8:=xt r8 aov.2;have lq:=num_len hQ (Nat.lt_of_le_of_lt (Nat.div_le_self _ _) (fi50 fn));refine go ?_;refine clb en106 (hc:=plus_ok hT om hQ om) (hk:=?_);rintro _ _ aor ⟨As,ns,cs,rfl,hS⟩;have hN:=Num.ext aor.2 hN;have⟨kx,o4⟩:=bf2 aor.2 kx o4;have hT:=Num.ext aor.2 hT;have r8:=xt r8 aor.2;have ls:=num_len hS (rt_sum (fi50 fn) htb);refine BS (λ_ aom _ apf=>?_);have hN:=Num.ext aom hN
 have⟨kx,o4⟩:=bf2 aom kx o4;have hT:=Num.ext aom hT;have hS:=Num.ext aom hS;have r8:=xt r8 aom;have ap6:=bz aom;have h2n:=num_two (Rw.of_own apf);refine clb en105 (hc:=over_ok hS om h2n om dc) (hk:=?_);rintro _ _ aop ⟨Ay,ny,cy,Ar2,nr2,cr2,rfl,hY,hR2⟩;have hN:=Num.ext aop.2 hN;have⟨kx,o4⟩:=bf2 aop.2 kx o4;have hT:=Num.ext aop.2 hT;have r8:=xt r8 aop.2;have ly:=num_len hY (Nat.lt_of_le_of_lt (Nat.div_le_self _ _) (rt_sum (fi50 fn) htb));refine go ?_;refine clb en110 (hc:=compare_ok hY om hT) (hk:=?_);rintro _ _ aon rfl;have hN:=Num.ext aon.2 hN;have⟨kx,o4⟩:=bf2 aon.2 kx o4;have hT:=Num.ext aon.2 hT;have hY:=Num.ext aon.2 hY;have r8:=xt r8 aon.2;refine go ?_;by_cases aoz:0<=(cmpI ((((t+n/t)/2:Nat)):Int) (((t:Nat)):Int));have hge:=rt_ge aoz;have hrt:=rt_t hf hge;refine go ?_;refine l_op (k_build (vs:=[(1,.slice Ax nx cx)]) (cells:=#[.bool false,.slice Ax nx cx]) (pl:=[(0,1),(1,1)]) U125 inf125 (by kernel_rfl) rfl (by kernel_rfl) ?_);refine clb en109 (hc:=cEqR (stext_ok (ng:=false) hT om (ht.ext r8)) (out_fit htb)) (hk:=?_);rintro _ _ aoo rfl;have r8:=xt r8 aoo.2;refine go ?_;exact f_ret2 (t:=2) (u:=3) (v1:=S (nS t)) (v2:=.int .i64 0) rfl r8 (by rw[hrt]) rfl rfl;have hge:=rt_lt aoz;obtain⟨g,rfl,h2⟩:=rt_f hf hge;refine go ?_
 exact lend ⟨g,Ay,ny,cy,(t+n/t)/2,rfl,rfl,h2,(by have:=Nat.not_le.1 hge;omega),(rt_pos hn0 ht0),om,r8,hN,kx,o4,(hY.mono om)⟩
end Go.Proofs.YtmehbpjpbbhohaaGreatDoor
namespace Go.Proofs.YtmehbpjpbbhohaaGreatDoor
open Go Go.Eng Go.RowKit
def rootP (S:Nat)(a:N2):Option N2:=if bdB a=true∧0<a.1*S∧0<a.2*S then(rtN (a.1*S)).bind λx=>(rtN (a.2*S)).bind λy=>if bdB (x,y)=true then some (x,y+1)else none else none
theorem root_inv {S:Nat}{a r:N2}(h:rootP S a=some r):Bk 95 a∧0<a.1*S∧0<a.2*S∧∃x y,rtN (a.1*S)=some x∧rtN (a.2*S)=some y∧Bk 95 (x,y)∧r=(x,y+1):=by
  unfold rootP at h
  split at h
  · rename_i h1
    refine⟨bdB_ok h1.1,h1.2.1,h1.2.2,?_⟩
    cases hx:rtN (a.1*S)with
    |none=>rw[hx]at h;cases h
    | some x=>
      rw[hx,Option.bind_some]at h
      cases hy:rtN (a.2*S)with
      |none=>rw[hy]at h;cases h
      | some y=>
        rw[hy,Option.bind_some]at h
        split at h
        · rename_i h2;cases h;exact⟨x,y,rfl,rfl,bdB_ok h2,rfl⟩
        · cases h
  · cases h
def piL:List UInt8:=[51,49,52,49,53,57,50,54,53,51,53,56,57,55,57,51,50,51,56,52,54,50,54,52,51,51,56,51,50,55,57,53,48,50,56,56,52,49,57,55,49,54,57,51,57,57,51,55,53,49,48,53,56,50,48,57,55,52,57,52,52,53,57,50,51,48,55,56,49,54,52,48,54,50,56,54,50,48,56,57,57]
def piN (k:Nat):Nat:=314159265358979323846264338327950288419716939937510582097494459230781640628620899/10^(80-k)
theorem pi_str {k:Nat}(h:k<81):piL.take (k+1)=nS (piN k):=by
  have:∀k:Fin 81,piL.take (k.1+1)=nS (piN k.1):=by decide +kernel
  exact this ⟨k,h⟩
theorem pi_bd {k:Nat}:piN k<10^81:=Nat.lt_of_le_of_lt (Nat.div_le_self _ _) dc
def hnP (S pl n d:Nat):Option N2:=
  if bdB (n,d)=true∧0<d∧bdB (ofP S n d)=true∧bdB (tmP S (ofP S n d) (ofP S n d))=true then
    (sumP (hnN S (tmP S (ofP S n d) (ofP S n d))) (ofP S n d)).bind λs=>
    (expP S (byP (tmP S (ofP S n d) (ofP S n d)) 1 2)).bind λe=>
    (rootP S (byP (piN pl,piN pl+1) 2 1)).bind λc=>
    if bdB s=true∧bdB c=true∧0<(tmP S e c).1∧0<(tmP S e c).2 then some (ovP S s (tmP S e c))else none
  else none
theorem hn_inv {S pl n d:Nat}{r:N2}(h:hnP S pl n d=some r):Bk 95 (n,d)∧0<d∧Bk 95 (ofP S n d)∧Bk 95 (tmP S (ofP S n d) (ofP S n d))∧∃s e c,
    sumP (hnN S (tmP S (ofP S n d) (ofP S n d))) (ofP S n d)=some s∧expP S (byP (tmP S (ofP S n d) (ofP S n d)) 1 2)=some e∧rootP S (byP (piN pl,piN pl+1) 2 1)=some c∧Bk 95 s∧Bk 95 c∧0<(tmP S e c).1∧0<(tmP S e c).2∧r=ovP S s (tmP S e c):=by
  unfold hnP at h
  split at h
  · rename_i h1
    refine⟨bdB_ok h1.1,h1.2.1,bdB_ok h1.2.2.1,bdB_ok h1.2.2.2,?_⟩
    cases hs:sumP (hnN S (tmP S (ofP S n d) (ofP S n d))) (ofP S n d)with
    |none=>rw[hs]at h;cases h
    | some s=>
      rw[hs,Option.bind_some]at h
      cases he:expP S (byP (tmP S (ofP S n d) (ofP S n d)) 1 2)with
      |none=>rw[he]at h;cases h
      | some e=>
        rw[he,Option.bind_some]at h
        cases hc:rootP S (byP (piN pl,piN pl+1) 2 1)with
        |none=>rw[hc]at h;cases h
        | some c=>
          rw[hc,Option.bind_some]at h
          split at h
          · rename_i h2;cases h;exact⟨s,e,c,rfl,rfl,rfl,bdB_ok h2.1,bdB_ok h2.2.1,h2.2.2.1,h2.2.2.2,rfl⟩
          · cases h
  · cases h
end Go.Proofs.YtmehbpjpbbhohaaGreatDoor
namespace Go.Proofs.YtmehbpjpbbhohaaGreatDoor
set_option maxRecDepth 100000
open Go Go.Eng Go.RowKit
attribute [local irreducible] wpListIn Code.wpIn Oper.wpIn Exit.then Exit.inBlock Exit.noGoto
set_option maxHeartbeats 40000000
theorem pi_len:piL.length=81:=by decide +kernel
theorem spOfL_ok {l m:List UInt8}{sO pl n d:Nat}{w:World}(hl:l=nS n)(hm:m=nS d)(hS:Sc sO)(hn:Fi n)(hd:Fi d)(h0:0<d)(hf:Fi (n*sO))(ht:Tb w):
    CL 166 #[.agg #[.int .i64 pl,S (nS sO)],.agg #[S l,S m]] w (Ret w λv _=>v=.agg #[S (nS (ofP sO n d).1),S (nS (ofP sO n d).2)]):=by
  subst hl hm
  exact spOf_ok hS hn hd h0 hf ht
theorem spRoot_ok {sO pl:Nat}{a r:N2}{w:World}(hS:Sc sO)(hr:rootP sO a=some r)(ht:Tb w):
    CL 198 #[.agg #[.int .i64 pl,S (nS sO)],.agg #[S (nS a.1),S (nS a.2)]] w (Ret w λv w'=>v=.agg #[S (nS r.1),S (nS r.2)]):=by
 obtain⟨ha,p1,p2,x,y,hr1,hr2,hb,hre⟩:=root_inv hr;have fa:=ha.fi dc;refine f_in Tryz.func198 rfl ?_;refine go ?_;refine bx (λ_ aow r8=>?_);have o4:=aow.2;refine bx (λaou aov sc=>?_);have⟨r8,o4⟩:=be1 aov.2 r8 o4;refine al inf1056 (λ_ aot aol=>?_);have⟨r8,sc,o4⟩:=be2 aot.2 r8 sc o4;refine go ?_;refine clb en1043 (hc:=nMul_ok rfl rfl fa.1 hS.fi (fi_mul ha.1 hS.lt dc) (ht.ext o4)) (hk:=?_);rintro _ _ aon rfl;have⟨r8,sc,aol,o4⟩:=be3 aon.2 r8 sc aol o4;refine clb en1136 (hc:=root_ok (fi_mul ha.1 hS.lt dc) p1 hr1 (ht.ext o4)) (hk:=?_);rintro _ _ aoo rfl;have⟨r8,sc,aol,o4⟩:=be3 aoo.2 r8 sc aol o4;refine go ?_;refine clb en1043 (hc:=nMul_ok rfl rfl fa.2 hS.fi (fi_mul ha.2 hS.lt dc) (ht.ext o4)) (hk:=?_);rintro _ _ aop rfl;have⟨r8,sc,aol,o4⟩:=be3 aop.2 r8 sc aol o4;refine clb en1136 (hc:=root_ok (fi_mul ha.2 hS.lt dc) p2 hr2 (ht.ext o4)) (hk:=?_);rintro _ _ aoq rfl;have⟨r8,sc,aol,o4⟩:=be3 aoq.2 r8 sc aol o4;refine go ?_;refine clb en1045 (hc:=nAdd_ok rfl lit1 (by have:=hb.2;unfold Fi;simp only at this;omega) (ht.ext o4)) (hk:=?_);rintro _ _ aor rfl;have⟨r8,sc,aol,o4⟩:=be3 aor.2 r8 sc aol o4;refine go ?_;refine SA aol (λ_ aos aox=>?_);have⟨r8,sc,o4,_⟩:=pl2 aos r8 sc o4;refine go ?_;refine f_out (v:=.agg #[S (nS x),S (nS (y+1))]) (res1  rfl ?_) o4 (by rw[hre]);refine res_cellA (t:=4) (cs:=[S (nS x),S (nS (y+1))]) (b:=aou.heap.size) (o:=0) U1056 rfl sz1056 ?_ ?_;exact rfl
 exact Blk.cells aox (i:=0) rfl
theorem pi_ok {sO pl:Nat}{w:World}(hp:pl<81)(ht:Tb w):
    CL 199 #[.agg #[.int .i64 pl,S (nS sO)]] w (Ret w λv w'=>v=.agg #[S (nS ((piN pl,piN pl+1).1)),S (nS ((piN pl,piN pl+1).2))]):=by
 refine f_in Tryz.func199 rfl ?_;refine go ?_;refine bx (λaon aop r8=>?_);have o4:=aop.2;refine al inf1056 (λ_ aoo sc=>?_);have⟨r8,o4⟩:=be1 aoo.2 r8 o4;refine go ?_;refine l_op (k_add (a:=(pl:Int)) (b:=1) (c:=((pl+1:Nat):Int)) rfl rfl (by unfold In64;omega) om ?_);refine l_op (k_sliceS (l:=piL) (i:=0) (j:=pl+1) U9 rfl (.inl ⟨rfl,rfl⟩) (.inr ⟨_,congrArg some rfl⟩) om (by rw[pi_len];omega) ?_);rw[show(piL.take (pl+1)).drop 0=piL.take (pl+1)from rfl];refine go ?_;refine clb en1045 (hc:=nAdd_ok (pi_str hp) lit1 (by have:=pi_bd (k:=pl);unfold Fi;omega) (ht.ext o4)) (hk:=?_);rintro _ _ aol rfl;have⟨r8,sc,o4⟩:=be2 aol.2 r8 sc o4;refine go ?_;refine SA sc (λ_ aom aoq=>?_);have⟨r8,o4,_⟩:=pl1 aom r8 o4;refine go ?_;refine f_out (v:=.agg #[S (piL.take (pl+1)),S (nS (piN pl+1))]) (res1  rfl ?_) o4 (by exact congrArg (λl=>Value.agg #[S l,S (nS (piN pl+1))]) (pi_str hp));refine res_cellA (t:=2) (cs:=[S (piL.take (pl+1)),S (nS (piN pl+1))]) (b:=aon.heap.size) (o:=0) U1056 rfl sz1056 ?_ ?_;exact rfl;exact Blk.cells aoq (i:=0) rfl
theorem halfNormal_ok {sO pl n d:Nat}{r:N2}{w:World}(hS:Sc sO)(hp:pl<81)(hh:hnP sO pl n d=some r)(ht:Tb w):
    CL 169 #[.agg #[.int .i64 pl,S (nS sO)],.agg #[S (nS n),S (nS d)]] w (Ret w λv w'=>v=.agg #[S (nS r.1),S (nS r.2)]):=by
 obtain⟨hnd,hd0,hv,hqq,s,e1,c,hs,he,hc,hsb,hcb,hm1,hm2,rfl⟩:=hn_inv hh;obtain⟨m,hR,hr⟩:=sumP_inv hs;have heb:=exp_bd he;have fnd:=hnd.fi dc;refine f_in Tryz.func169 rfl ?_;refine go ?_;refine bx (λ_ ap6 o4=>?_);have aoo:=ap6.2;refine bx (λap0 ap1 r8=>?_);have⟨o4,aoo⟩:=be1 ap1.2 o4 aoo;refine al inf1056 (λ_ apx sc=>?_);have⟨o4,r8,aoo⟩:=be2 apx.2 o4 r8 aoo;refine go ?_;refine clb en1032 (hc:=spOfL_ok (n:=n) (d:=d) rfl rfl hS fnd.1 fnd.2 hd0 (fi_mul hnd.1 hS.lt dc) (ht.ext aoo)) (hk:=?_);rintro _ _ apv rfl;have⟨o4,r8,sc,aoo⟩:=be3 apv.2 o4 r8 sc aoo;refine al inf1056 (λ_ apw ap7=>?_);have⟨o4,r8,sc,aoo⟩:=be3 apw.2 o4 r8 sc aoo;refine SA ap7 (λ_ apl aol=>?_);have⟨o4,r8,sc,aoo,_⟩:=pl3 apl o4 r8 sc aoo;refine go ?_;refine cl en1074 (spTimes_ok hS hv hv (ht.ext aoo)) ?_;rintro _ apm apn rfl;have⟨o4,r8,sc,aol,aoo⟩:=be4 apn.2 o4 r8 sc aol aoo;refine al inf1056 (λ_ apo ap8=>?_);have⟨o4,r8,sc,aol,aoo⟩:=be4 apo.2 o4 r8 sc aol aoo;refine SA ap8 (λap9 ao7 aom=>?_);have⟨o4,r8,sc,aol,aoo,_⟩:=pl4 ao7 o4 r8 sc aol aoo;refine go ?_;refine c_an 6 ?_;refine sf ?_;refine sf_ap (λ_ _ _ _=>by refine l_op (k_makeFunc (vf:=[]) (vc:=[pT w.heap.size,pT apm.heap.size]) rfl rfl ?_);refine go ?_;exact finp) ?_;refine sf_ah (λv wz=>SeqV (ofP sO n d) (.func (.func 194) #[] #[pT w.heap.size,pT apm.heap.size]) wz v) (hs:=λ_ _ _ k h=>h.ext k) (λ_ _ _ _=>?_) ?_
 refine cl en1072 terms_ok ?_;rintro _ _ ao8 hsq;have aqa:=ao8.2;refine go ?_;exact fs ⟨aqa,hsq⟩;refine sf_ae (V:=.agg #[S (nS s.1),S (nS s.2)]) (λ_ _ aoq aqb=>?_) ?_;obtain⟨_,_,aqe,apy,apz⟩:=(aqb 3 18 rfl rfl);have⟨o4,aom⟩:=bf2 aoq o4 aom;refine clb en1071 (hc:=cP (sum_ok hR hS apy apz en1132 (λk hk W e=>hn1_ok hS (o4.ext e) (aom.ext e) (hR.bd k om) hqq om (by have:=hR.lt;omega) ((ht.ext (xt aoo aoq)).ext e)) (ht.ext (xt aoo aoq))) hr) (hk:=?_) (hv:=cons_eq rfl (cons_eq aqe rfl));rintro _ _ aop rfl;have aqf:=aop.2;refine go ?_;exact fs ⟨aqf,rfl⟩;refine sf_ah (λv wz=>∃b:Nat,v=pT b∧ap9.heap.size<=b∧Blk wz b 177 #[S ([]),S ([])]) (hs:=λ_ _ _ k ⟨b,e,l,h⟩=>⟨b,e,l,h.ext k⟩) (λ_ _ ao9 _=>?_) ?_;refine al inf1056 (λ_ apa aqg=>?_);have aqh:=apa.2;refine go ?_;exact fs ⟨aqh,⟨_,rfl,(by have:=bz ao9;omega),aqg⟩⟩;refine sf ?_;intro _ _ apb aqi;have⟨o4,r8,sc,aol,aom,aoo⟩:=be5 apb.2 o4 r8 sc aol aom aoo;obtain⟨_,_,_,ap4⟩:=(aqi 5 7 rfl rfl);have arp:=bt ap4;refine SA ap4 (λ_ aor aon=>?_);have⟨o4,r8,sc,aol,aom,aoo,_⟩:=pl5 aor o4 r8 sc aol aom aoo;refine go ?_;refine c_an 15 ?_;refine sf ?_;refine sf_ae (V:=.agg #[S (nS ((byP (tmP sO (ofP sO n d) (ofP sO n d)) 1 2).1)),S (nS ((byP (tmP sO (ofP sO n d) (ofP sO n d)) 1 2).2))]) (λ_ _ aos _=>?_) ?_;refine clb en1070 (hc:=spBy_ok (hqq.mono dc) dc dc dc (ht.ext (xt aoo aos))) (hk:=?_)
 rintro _ _ aot rfl;have aqj:=aot.2;refine go ?_;exact fs ⟨aqj,rfl⟩;refine sf_ae (V:=.agg #[S (nS e1.1),S (nS e1.2)]) (λ_ _ aou _=>?_) ?_;refine cl en1031 (exp_ok hS he (ht.ext (xt aoo aou))) ?_;rintro _ _ aov rfl;have aqk:=aov.2;refine go ?_;exact fs ⟨aqk,rfl⟩;refine sf ?_;refine sf_ae (V:=.agg #[S (nS ((piN pl,piN pl+1).1)),S (nS ((piN pl,piN pl+1).2))]) (λ_ _ aow _=>?_) ?_;refine cl en1104 (pi_ok hp (ht.ext (xt aoo aow))) ?_;rintro _ _ aox rfl;have aql:=aox.2;refine go ?_;exact fs ⟨aql,rfl⟩;refine sf_ae (V:=.agg #[S (nS ((byP (piN pl,piN pl+1) 2 1).1)),S (nS ((byP (piN pl,piN pl+1) 2 1).2))]) (λ_ _ aoy _=>?_) ?_;refine clb en1070 (hc:=spBy_ok (⟨lt_pow_mono pi_bd dc,by have:=pi_bd (k:=pl);simp only;omega⟩:Bk 190 (piN pl,piN pl+1)) dc dc dc (ht.ext (xt aoo aoy))) (hk:=?_);rintro _ _ aoz rfl;have aqm:=aoz.2;refine go ?_;exact fs ⟨aqm,rfl⟩;refine sf_ae (V:=.agg #[S (nS c.1),S (nS c.2)]) (λ_ _ ao0 _=>?_) ?_;refine cl en1103 (spRoot_ok hS hc (ht.ext (xt aoo ao0))) ?_;rintro _ _ ao1 rfl;have aqn:=ao1.2;refine go ?_;exact fs ⟨aqn,rfl⟩;refine sf_ae (V:=.agg #[S (nS ((tmP sO e1 c).1)),S (nS ((tmP sO e1 c).2))]) (λ_ _ ao2 _=>?_) ?_;refine cl en1074 (spTimes_ok hS heb hcb (ht.ext (xt aoo ao2))) ?_;rintro _ _ ao3 rfl;have aqo:=ao3.2;refine go ?_;exact fs ⟨aqo,rfl⟩;refine sf ?_;intro _ _ ao4 _;have⟨o4,r8,sc,aol,aom⟩:=bf5 ao4.2 o4 r8 sc aol aom
 have⟨aon,aoo⟩:=be1 ao4.2 aon aoo;refine cl en1029 (spOver_ok hS hsb (tmP_bd hS.pos heb hcb) hm1 hm2 (ht.ext aoo)) ?_;rintro _ _ ao5 rfl;have⟨o4,r8,sc,aol,aom⟩:=bf5 ao5.2 o4 r8 sc aol aom;have⟨aon,aoo⟩:=be1 ao5.2 aon aoo;refine SA sc (λ_ ao6 aqp=>?_);have⟨o4,r8,aol,aom,aon,aoo,_⟩:=pl5 ao6 o4 r8 aol aom aon aoo;refine go ?_;refine f_out (v:=.agg #[S (nS ((ovP sO s (tmP sO e1 c)).1)),S (nS ((ovP sO s (tmP sO e1 c)).2))]) (res1  rfl ?_) aoo rfl;refine res_cellA (t:=4) (cs:=[S (nS ((ovP sO s (tmP sO e1 c)).1)),S (nS ((ovP sO s (tmP sO e1 c)).2))]) (b:=ap0.heap.size) (o:=0) U1056 rfl sz1056 ?_ ?_;exact rfl;exact Blk.cells aqp (i:=0) rfl
theorem hp_1 {l:List UInt8}(h:(1:Int)<=((l.length:Nat):Int)):Value.bool (decide (l.take 1=[45]))=.bool (neg l):=by
  cases l with
  |nil=>simp at h
  |cons a t=>congr 1;simp only[neg,List.take_succ_cons,List.take_zero,List.cons.injEq,and_true];cases hh:decide (a=45) <;>simp_all
theorem hp_0 {l:List UInt8}(h:¬(1:Int)<=((l.length:Nat):Int)):Value.bool false=.bool (neg l):=by
  cases l with
  |nil=>rfl
  |cons a t=>simp at h;omega
theorem cut_t {l:List UInt8}(h:neg l=true):l.drop 1=body l:=by
  have:=neg_cons h
  rw[this];rfl
theorem len_neg {l:List UInt8}(h:neg l=true):1<=l.length:=by rw[neg_cons h];simp
theorem neg_z {N:Int}(h:N<0):neg (showI N)=true:=by rw[neg_showI];exact decide_eq_true h
theorem pos_z {N:Int}(h:¬N<0):neg (showI N)=false:=by rw[neg_showI];exact decide_eq_false h
theorem showN_nS (n:Nat):showN n=nS n:=(body_nS n).symm.trans (by unfold nS;exact body_neg (neg_nS n))
theorem body_z (N:Int):body (showI N)=nS N.natAbs:=by rw[body_showI,showN_nS]
theorem showI_nS {N:Int}(h:¬N<0):showI N=nS N.natAbs:=by unfold nS;congr 1;omega
def nrP (S pl:Nat)(N:Int)(d:Nat):Option (Int×Int):=(hnP S pl N.natAbs d).map λh=>if N<0 then miP (ofP S 1 2) h else zP (plP (ofP S 1 2) h)
theorem nr_inv {S pl d:Nat}{N:Int}{r:Int×Int}(h:nrP S pl N d=some r):∃h,hnP S pl N.natAbs d=some h∧r=if N<0 then miP (ofP S 1 2) h else zP (plP (ofP S 1 2) h):=by
  unfold nrP at h
  cases hh:hnP S pl N.natAbs d with
  |none=>rw[hh]at h;cases h
  |some x=>rw[hh]at h;cases h;exact⟨x,rfl,rfl⟩
theorem hn_bd {S pl n d:Nat}{r:N2}(hS:Sc S)(h:hnP S pl n d=some r):Bk 190 r:=by
  obtain⟨_,_,_,_,s,e,c,_,_,_,hs,_,h1,_,rfl⟩:=hn_inv h
  exact ovP_bd hS h1 hs
theorem of_bd {S n d:Nat}(hS:Sc S)(hn:n<10)(hd:0<d):Bk 99 (ofP S n d):=by
  have h1:n*S<10^99:=by
    have:=hS.lt
    have h2:n*S<=10*S:=Nat.mul_le_mul_right _ om
    omega
  exact⟨Nat.lt_of_le_of_lt (Nat.div_le_self _ _) h1,Nat.lt_of_le_of_lt (upn_le hd) h1⟩
theorem hasPrefixL_ok (l:List UInt8)(w:World):
    CL 173 #[S l,S ([45])] w (Ret w λv w'=>v=.bool (neg l)):=by
 refine f_in Tryz.func173 rfl ?_;refine go ?_;by_cases o4:((1:Nat):Int)<=(((l).length:Nat):Int);refine go ?_;refine l_op (k_lenL (l:=l) U9 rfl ?_);refine go ?_;refine l_op (k_lenLm (l:=[45]) (m:=1) U9 rfl rfl ?_);refine go ?_;refine l_op (k_lenLm (l:=[45]) (m:=1) U9 rfl rfl ?_);refine go ?_;refine l_op (k_sliceS (l:=l) (i:=0) (j:=(1)) U9 rfl (.inl ⟨rfl,rfl⟩) (.inr ⟨_,congrArg some rfl⟩) om om ?_);rw[show((l).take ((1))).drop 0=(l).take ((1))from rfl];refine go ?_;refine eqs (b:=[45]) ?_;refine go ?_;exact f_ret1 (t:=4) (v:=.bool (decide (((l).take ((1)))=([45])))) rfl (Ext.refl _) (hp_1 o4) rfl;refine go ?_;refine l_op (k_lenL (l:=l) U9 rfl ?_);refine go ?_;refine l_op (k_lenLm (l:=[45]) (m:=1) U9 rfl rfl ?_);refine go ?_;exact f_ret1 (t:=4) (v:=.bool false) rfl (Ext.refl _) (hp_0 o4) rfl
theorem hasPrefix_ok (l:List UInt8)(w:World):
    CL 127 #[S l,S ([45])] w (Ret w λv w'=>v=.bool (neg l)):=by
 refine f_in Tryz.func127 rfl ?_;refine go ?_;refine cl en158 (hasPrefixL_ok l _) ?_;rintro _ _ o4 rfl;have r8:=o4.2;refine go ?_;exact f_ret1 (t:=4) (v:=.bool (neg l)) rfl r8 rfl rfl
theorem cutLT_ok {l:List UInt8}{w:World}(h:neg l=true):
    CL 189 #[S l,S ([45])] w (Ret w λv w'=>v=.tuple #[S (body l),.bool true]):=by
 refine f_in Tryz.func189 rfl ?_;refine go ?_;refine cl en158 (hasPrefixL_ok l _) ?_;rintro _ _ o4 rfl;have r8:=o4.2;refine go ?_;refine l_op (k_lenLm (l:=[45]) (m:=1) U9 rfl rfl ?_);refine l_op (k_sliceS (l:=l) (i:=(1)) (j:=(l).length) U9 rfl (.inr ⟨_,congrArg some rfl⟩) (.inl ⟨rfl,rfl⟩) (len_neg h) (Nat.le_refl _) ?_);rw[show((l).take ((l).length)).drop ((1))=(l).drop ((1))by rw[List.take_length]];refine go ?_;exact f_ret2 (t:=4) (u:=5) (v1:=S ((l).drop ((1)))) (v2:=.bool true) rfl r8 (by rw[cut_t h]) rfl rfl
theorem cutT_ok {l:List UInt8}{w:World}(h:neg l=true):
    CL 167 #[S l,S ([45])] w (Ret w λv w'=>v=.tuple #[S (body l),.bool true]):=by
 refine f_in Tryz.func167 rfl ?_;refine go ?_;refine cl en1068 (cutLT_ok h) ?_;rintro _ _ o4 rfl;have r8:=o4.2;refine go ?_;exact f_ret2 (t:=4) (u:=5) (v1:=S (body l)) (v2:=.bool true) rfl r8 rfl rfl rfl
theorem cutLF_ok {l:List UInt8}{w:World}(h:neg l=false):
    CL 189 #[S l,S ([45])] w (Ret w λv w'=>v=.tuple #[S l,.bool false]):=by
 refine f_in Tryz.func189 rfl ?_;refine go ?_;refine cl en158 (hasPrefixL_ok l _) ?_;rintro _ _ o4 rfl;have r8:=o4.2;refine go ?_;exact f_ret2 (t:=4) (u:=5) (v1:=S l) (v2:=.bool false) rfl r8 rfl rfl rfl
theorem cutF_ok {l:List UInt8}{w:World}(h:neg l=false):
    CL 167 #[S l,S ([45])] w (Ret w λv w'=>v=.tuple #[S l,.bool false]):=by
 refine f_in Tryz.func167 rfl ?_;refine go ?_;refine cl en1068 (cutLF_ok h) ?_;rintro _ _ o4 rfl;have r8:=o4.2;refine go ?_;exact f_ret2 (t:=4) (u:=5) (v1:=S l) (v2:=.bool false) rfl r8 rfl rfl rfl
theorem normal_ok {sO pl d:Nat}{N:Int}{r:Int×Int}{w:World}(hS:Sc sO)(hp:pl<81)(hr:nrP sO pl N d=some r)(ht:Tb w):
    CL 124 #[.agg #[.int .i64 pl,S (nS sO)],.agg #[S (showI N),S (nS d)]] w (Ret w λv w'=>v=.agg #[S (showI r.1),S (showI r.2)]):=by
 obtain⟨h,hh,rfl⟩:=nr_inv hr;have hb:=hn_bd hS hh;have ho:=of_bd (n:=1) (d:=2) hS dc dc;by_cases hN:N<0;rw[if_pos hN];refine f_in Tryz.func124 rfl ?_;refine go ?_;refine bx (λ_ apw o4=>?_);have aop:=apw.2;refine bx (λapq apr r8=>?_);have⟨o4,aop⟩:=be1 apr.2 o4 aop;refine al inf1056 (λ_ apm aol=>?_);have⟨o4,r8,aop⟩:=be2 apm.2 o4 r8 aop;refine go ?_;refine clb en1032 (hc:=spOfL_ok (n:=1) (d:=2) lit1 lit2 hS fi1 (fi_pow (k:=1) dc dc) dc (by rw[Nat.one_mul];exact hS.fi) (ht.ext aop)) (hk:=?_);rintro _ _ ao7 rfl;have⟨o4,r8,aol,aop⟩:=be3 ao7.2 o4 r8 aol aop;refine al inf1056 (λ_ ao8 apx=>?_);have⟨o4,r8,aol,aop⟩:=be3 ao8.2 o4 r8 aol aop;refine SA apx (λ_ aos aon=>?_);have⟨o4,r8,aol,aop,_⟩:=pl3 aos o4 r8 aol aop;refine go ?_;refine cl en1028 (cEq (Y:=.tuple #[S (nS N.natAbs),.bool true]) (cutT_ok (neg_z hN)) (congrArg (λl=>Value.tuple #[S l,.bool true]) (body_z _))) ?_;rintro _ _ aot rfl;have⟨o4,r8,aol,aon,aop⟩:=be4 aot.2 o4 r8 aol aon aop;refine go ?_;refine c_an 8 ?_;refine sf ?_;refine sf_ae (V:=.agg #[S (nS h.1),S (nS h.2)]) (λ_ _ aou _=>?_) ?_;refine cl en1095 (halfNormal_ok hS hp hh (ht.ext (xt aop aou))) ?_;rintro _ _ aov rfl;have apy:=aov.2;refine go ?_;exact fs ⟨apy,rfl⟩;refine sf ?_;intro _ _ aow _;have⟨o4,r8,aol,aon,aop⟩:=be4 aow.2 o4 r8 aol aon aop;refine clb en1094 (hc:=spMinus_ok (ho.mono dc) (hb.mono dc) (ht.ext aop)) (hk:=?_);rintro _ _ aox rfl
 have⟨o4,r8,aol,aon,aop⟩:=be4 aox.2 o4 r8 aol aon aop;refine SA aol (λ_ aoy apz=>?_);have⟨o4,r8,aon,aop,_⟩:=pl3 aoy o4 r8 aon aop;refine go ?_;refine f_out (v:=.agg #[S (showI ((miP (ofP sO 1 2) h).1)),S (showI ((miP (ofP sO 1 2) h).2))]) (res1  rfl ?_) aop rfl;refine res_cellA (t:=4) (cs:=[S (showI ((miP (ofP sO 1 2) h).1)),S (showI ((miP (ofP sO 1 2) h).2))]) (b:=apq.heap.size) (o:=0) U1056 rfl sz1056 ?_ ?_;exact rfl;exact Blk.cells apz (i:=0) rfl;rw[if_neg hN];refine f_in Tryz.func124 rfl ?_;refine go ?_;refine bx (λ_ ap0 sc=>?_);have aoq:=ap0.2;refine bx (λapt apu aom=>?_);have⟨sc,aoq⟩:=be1 apu.2 sc aoq;refine al inf1056 (λ_ apo aoo=>?_);have⟨sc,aom,aoq⟩:=be2 apo.2 sc aom aoq;refine go ?_;refine clb en1032 (hc:=spOfL_ok (n:=1) (d:=2) lit1 lit2 hS fi1 (fi_pow (k:=1) dc dc) dc (by rw[Nat.one_mul];exact hS.fi) (ht.ext aoq)) (hk:=?_);rintro _ _ apg rfl;have⟨sc,aom,aoo,aoq⟩:=be3 apg.2 sc aom aoo aoq;refine al inf1056 (λ_ aph ap1=>?_);have⟨sc,aom,aoo,aoq⟩:=be3 aph.2 sc aom aoo aoq;refine SA ap1 (λ_ aoz aor=>?_);have⟨sc,aom,aoo,aoq,_⟩:=pl3 aoz sc aom aoo aoq;refine go ?_;refine cl en1028 (cutF_ok (pos_z hN)) ?_;rintro _ _ ao0 rfl;have⟨sc,aom,aoo,aor,aoq⟩:=be4 ao0.2 sc aom aoo aor aoq;refine go ?_;refine c_an 5 ?_;refine sf ?_;refine sf_ae (V:=.agg #[S (nS h.1),S (nS h.2)]) (λ_ _ ao1 _=>?_) ?_
 refine clb en1095 (hc:=show CL 169 #[.agg #[.int .i64 pl,S (nS sO)],.agg #[S (showI N),S (nS d)]] _ _ by rw[showI_nS hN];exact halfNormal_ok hS hp hh (ht.ext (xt aoq ao1))) (hk:=?_);rintro _ _ ao2 rfl;have ap2:=ao2.2;refine go ?_;exact fs ⟨ap2,rfl⟩;refine sf ?_;intro _ _ ao3 _;have⟨sc,aom,aoo,aor,aoq⟩:=be4 ao3.2 sc aom aoo aor aoq;refine clb en1078 (hc:=spPlus_ok (by have:=hb.1;have:=ho.1;unfold Fi;omega) (by have:=hb.2;have:=ho.2;unfold Fi;omega) (ht.ext aoq)) (hk:=?_);rintro _ _ ao4 rfl;have⟨sc,aom,aoo,aor,aoq⟩:=be4 ao4.2 sc aom aoo aor aoq;refine SA aoo (λ_ ao5 ap3=>?_);have⟨sc,aom,aor,aoq,_⟩:=pl3 ao5 sc aom aor aoq;refine go ?_;refine f_out (v:=.agg #[S (nS ((plP (ofP sO 1 2) h).1)),S (nS ((plP (ofP sO 1 2) h).2))]) (res1  rfl ?_) aoq rfl;refine res_cellA (t:=4) (cs:=[S (nS ((plP (ofP sO 1 2) h).1)),S (nS ((plP (ofP sO 1 2) h).2))]) (b:=apt.heap.size) (o:=0) U1056 rfl sz1056 ?_ ?_;exact rfl;exact Blk.cells ap3 (i:=0) rfl
theorem cmpI_swap (x y:Int):cmpI x y=-cmpI y x:=by
  unfold cmpI;repeat' split
  all_goals first|rfl|omega
theorem cmpI_iff {a b c d:Int}(h1:a<b↔c<d)(h2:a=b↔c=d):cmpI a b=cmpI c d:=by
  unfold cmpI
  by_cases h:a<b
  · rw[if_pos h,if_pos (h1.1 h)]
  · rw[if_neg h,if_neg (λe=>h (h1.2 e))]
    by_cases h':a=b
    · rw[if_pos h',if_pos (h2.1 h')]
    · rw[if_neg h',if_neg (λe=>h' (h2.2 e))]
theorem cmpI_sub {a b c d:Int}(h:a-b=c-d):cmpI a b=cmpI c d:=cmpI_iff om om
theorem floor_lt {n1 d1 n2 d2:Int}(h1:0<d1)(h2:0<d2)(h:n1/d1<n2/d2):n1*d2<n2*d1:=by
  have e1:=Int.lt_ediv_add_one_mul_self n1 h1
  have e2:=Int.ediv_mul_le n2 (show d2≠0 by omega)
  have e3:(n1/d1+1)*d1<=(n2/d2)*d1:=Int.mul_le_mul_of_nonneg_right om om
  have e4:n1*d2<(n2/d2)*d1*d2:=Int.mul_lt_mul_of_pos_right om h2
  have e5:(n2/d2)*d2*d1<=n2*d1:=Int.mul_le_mul_of_nonneg_right e2 om
  have e6:(n2/d2)*d1*d2=(n2/d2)*d2*d1:=by rw[Int.mul_assoc,Int.mul_comm d1 d2,<-Int.mul_assoc]
  omega
theorem cq_ne {n1 d1 n2 d2:Int}(h1:0<d1)(h2:0<d2)(h:¬cmpI (n1/d1) (n2/d2)=0):cmpI (n1/d1) (n2/d2)=cmpI (n1*d2) (n2*d1):=by
  have hne:n1/d1≠n2/d2:=λe=>h (cmpI_eq e)
  rcases Int.lt_or_gt_of_ne hne with hl|hl
  · rw[cmpI_lt hl,cmpI_lt (floor_lt h1 h2 hl)]
  · rw[cmpI_gt hl,cmpI_gt (floor_lt h2 h1 hl)]
theorem cmpI_zero {x y:Int}(h:cmpI x y=0):x=y:=by
  unfold cmpI at h
  split at h
  · omega
  · split at h
    · assumption
    · omega
theorem cq_eq {n1 d1 n2 d2:Int}(h:cmpI (n1/d1) (n2/d2)=0):cmpI (n1*d2) (n2*d1)=cmpI (n1%d1*d2) (n2%d2*d1):=by
  have e:=cmpI_zero h
  refine cmpI_sub ?_
  have a1:=Int.mul_ediv_add_emod n1 d1
  have a2:=Int.mul_ediv_add_emod n2 d2
  generalize n1/d1=p at *;generalize n2/d2=q at *;generalize n1%d1=r at *;generalize n2%d2=s at *
  subst e;subst a1;subst a2
  rw[Int.add_mul,Int.add_mul,show d1*p*d2=d2*p*d1 by rw[Int.mul_comm d1 p,Int.mul_comm d2 p,Int.mul_assoc,Int.mul_comm d1 d2,<-Int.mul_assoc]]
  omega
theorem in64_sg {sg x y:Int}(h:sg=1∨sg=-1):In64 (sg*cmpI x y):=by
  have h1:cmpI x y<=1∧-1<=cmpI x y:=by unfold cmpI;split;omega;split <;>omega
  unfold In64;rcases h with rfl|rfl <;>omega
section
variable {N1 D1 N2 D2 n1 d1 n2 d2 sg:Int}(hi:cmpI (N1*D2) (N2*D1)=sg*cmpI (n1*d2) (n2*d1))(h1:0<d1)(h2:0<d2)
include hi h1 h2
theorem cp_ne (h:¬cmpI (n1/d1) (n2/d2)=0):sg*cmpI (n1/d1) (n2/d2)=cmpI (N1*D2) (N2*D1):=by rw[hi,cq_ne h1 h2 h]
theorem cp_00 (h:cmpI (n1/d1) (n2/d2)=0)(hr:showI (n1%d1)=[48])(hs:showI (n2%d2)=[48]):0=cmpI (N1*D2) (N2*D1):=by
  rw[hi,cq_eq h,showI_zero.1 hr,showI_zero.1 hs];simp[cmpI]
theorem cp_0n (h:cmpI (n1/d1) (n2/d2)=0)(hr:showI (n1%d1)=[48])(hs:¬showI (n2%d2)=[48]):-sg=cmpI (N1*D2) (N2*D1):=by
  have h0:n2%d2≠0:=λe=>hs (showI_zero.2 e)
  have h3:=Int.emod_nonneg n2 (show d2≠0 by omega)
  rw[hi,cq_eq h,showI_zero.1 hr,cmpI_lt (by rw[Int.zero_mul];exact Int.mul_pos om h1)];omega
theorem cp_n0 (h:cmpI (n1/d1) (n2/d2)=0)(hr:¬showI (n1%d1)=[48])(hs:showI (n2%d2)=[48]):sg=cmpI (N1*D2) (N2*D1):=by
  have h0:n1%d1≠0:=λe=>hr (showI_zero.2 e)
  have h3:=Int.emod_nonneg n1 (show d1≠0 by omega)
  rw[hi,cq_eq h,showI_zero.1 hs,cmpI_gt (by rw[Int.zero_mul];exact Int.mul_pos om h2)];omega
theorem cp_go (h:cmpI (n1/d1) (n2/d2)=0)(hr:¬showI (n1%d1)=[48])(hs:¬showI (n2%d2)=[48]):
    cmpI (N1*D2) (N2*D1)=-sg*cmpI (d1*(n2%d2)) (d2*(n1%d1))∧0<n1%d1∧0<n2%d2:=by
  have h0:n1%d1≠0:=λe=>hr (showI_zero.2 e)
  have h3:=Int.emod_nonneg n1 (show d1≠0 by omega)
  have h4:n2%d2≠0:=λe=>hs (showI_zero.2 e)
  have h5:=Int.emod_nonneg n2 (show d2≠0 by omega)
  refine⟨?_,by omega,by omega⟩
  rw[hi,cq_eq h,cmpI_swap (d1*_),Int.mul_comm d1,Int.mul_comm d2,Int.neg_mul_neg]
end
theorem fz_mod {n d:Int}(h:Fz d)(hd:0<d):Fz (n%d):=by
  have h1:=Int.emod_nonneg n (show d≠0 by omega)
  have h2:=Int.emod_lt_of_pos n hd
  unfold Fz at *;omega
set_option maxRecDepth 100000 in
theorem rCmpZ_ok {N1 D1 N2 D2:Int}{w:World}(o1:okR (showI N1,showI D1)=true)(o2:okR (showI N2,showI D2)=true)(fN1:Fz N1)(fD1:Fz D1)(fN2:Fz N2)(fD2:Fz D2)(ht:Tb w):
    CL 21 #[.agg #[S (showI N1),S (showI D1)],.agg #[S (showI N2),S (showI D2)]] w (Ret w λv w'=>v=.int .i64 (cmpI (N1*D2) (N2*D1))):=by
 have P1:0<D1:=by have:=okR_pos o1;rwa [valZ_showI]at this
 have P2:0<D2:=by have:=okR_pos o2;rwa [valZ_showI]at this
 refine f_in Tryz.func21 rfl ?_;refine go ?_;refine bx (λaox arh ao1=>?_);have aoy:=arh.2;refine bx (λ_ ap3 ao3=>?_);have⟨ao1,aoy⟩:=be1 ap3.2 ao1 aoy;refine go ?_;refine cl en82 (rValid_ok (showI N1) (showI D1) _ (ht.ext aoy)) ?_;rintro _ _ aph rfl;have⟨ao1,ao3,aoy⟩:=be2 aph.2 ao1 ao3 aoy;refine go ?_;refine cl en82 (rValid_ok (showI N2) (showI D2) _ (ht.ext aoy)) ?_;rintro _ _ api rfl;have⟨ao1,ao3,aoy⟩:=be2 api.2 ao1 ao3 aoy;refine go ?_;refine wpIn_label (n_then ?_);refine c_lab [(4,12),(21,73)] (λkk e W=>∃n1:Int,∃d1:Int,∃n2:Int,∃d2:Int,∃sg:Int,(d1.toNat=kk)∧(e 5=.int .i64 sg)∧(0<d1)∧(0<d2)∧(Fz n1)∧(Fz d1)∧(Fz n2)∧(Fz d2)∧(sg=1∨sg=-1)∧(cmpI (N1*D2) (N2*D1)=sg*cmpI (n1*d2) (n2*d1))∧(Ext w W)∧(Blk W (w.heap.size) 25 #[S (showI n1),S (showI d1)])∧(Blk W (aox.heap.size) 25 #[S (showI n2),S (showI d2)])) ((D1).toNat) ⟨N1,D1,N2,D2,1,rfl,rfl,P1,P2,fN1,fD1,fN2,fD2,(Or.inl rfl),(Int.one_mul _).symm,aoy,ao1,ao3⟩ ?_;rintro _ _ _ ⟨n1,d1,n2,d2,sg,rfl,ao7,p1,p2,fn1,fd1,fn2,fd2,hsg,hi,kx,hB1,hB2⟩;have aug:=bz kx;refine go ?_;refine cl en83 (cEq (Y:=.tuple #[S (showI (n1/d1)),S (showI (n1%d1)),.int .i64 0]) (iDiv_ok _ _ _ (ht.ext kx)) (congrArg resD (divI_Z fn1 fd1 (Int.ne_of_gt p1) (fz_div fn1 p1)))) ?_;rintro _ _ apj rfl;have⟨hB1,hB2,kx⟩:=be2 apj.2 hB1 hB2 kx;refine go ?_
 refine cl en83 (cEq (Y:=.tuple #[S (showI (n2/d2)),S (showI (n2%d2)),.int .i64 0]) (iDiv_ok _ _ _ (ht.ext kx)) (congrArg resD (divI_Z fn2 fd2 (Int.ne_of_gt p2) (fz_div fn2 p2)))) ?_;rintro _ _ apk rfl;have⟨hB1,hB2,kx⟩:=be2 apk.2 hB1 hB2 kx;refine go ?_;refine cl en84 (cEq (Y:=.int .i64 (cmpI (n1/d1) (n2/d2))) (iCmp_ok _ _ _) (congrArg (Value.int .i64) (cmpS_Z (fz_div fn1 p1) (fz_div fn2 p2)))) ?_;rintro _ ap4 apl rfl;have⟨hB1,hB2,kx⟩:=be2 apl.2 hB1 hB2 kx;refine go ?_;by_cases aoz:(cmpI (n1/d1) (n2/d2))=0;refine go ?_;by_cases aow:(showI (n1%d1))=([48]);refine go ?_;refine eqs (b:=[48]) ?_;refine go ?_;refine eqs (b:=[48]) ?_;refine go ?_;by_cases ao8:(showI (n2%d2))=([48]);refine go ?_;exact f_ret1 (t:=4) (v:=.int .i64 0) rfl kx (congrArg (Value.int .i64) (cp_00 hi p1 p2 aoz aow ao8)) rfl;refine go ?_;refine eqs (b:=[48]) ?_;refine go ?_;refine l_op (k_neg (a:=sg) rfl (by unfold In64;omega) ?_);refine go ?_;exact f_ret1 (t:=4) (v:=.int .i64 (-sg)) rfl kx (congrArg (Value.int .i64) (cp_0n hi p1 p2 aoz aow ao8)) rfl;refine go ?_;refine eqs (b:=[48]) ?_;refine go ?_;refine eqs (b:=[48]) ?_;refine go ?_;refine eqs (b:=[48]) ?_;refine go ?_;by_cases ao4:(showI (n2%d2))=([48]);refine go ?_;exact f_ret1 (t:=4) (v:=.int .i64 sg) rfl kx (congrArg (Value.int .i64) (cp_n0 hi p1 p2 aoz aow ao4)) rfl;refine go ?_;have ao9:=Ext.drew ap4
 refine c_st2 hmix 12 (λe0 ls e W=>(∀t,inB [64,65,66,67,68,69,70,71,72,73] t=false->e t=e0 t)∧(Ext w W)∧(ap4.heap.size<=W.heap.size)∧(ls 0=true->e 64=.pointer (some ⟨w.heap.size,1,none⟩))∧(ls 1=true->e 65=S (showI d1))∧(ls 2=true->e 66=S (showI (n1%d1)))∧(ls 3=true->e 67=.agg #[S (showI d1),S (showI (n1%d1))])∧(ls 4=true->e 68=.pointer (some ⟨aox.heap.size,1,none⟩))∧(ls 5=true->e 69=S (showI d2))∧(ls 6=true->e 70=S (showI (n2%d2)))∧(ls 7=true->e 71=.agg #[S (showI d2),S (showI (n2%d2))])∧(ls 8=true->e 72=.int .i64 sg)∧(ls 9=true->e 73=.int .i64 (-sg))∧(ls 10=false->Blk W (w.heap.size) 25 #[S (showI n1),S (showI d1)])∧(ls 10=true->Blk W (w.heap.size) 25 #[S (showI d1),S (showI (n1%d1))])∧(ls 11=false->Blk W (aox.heap.size) 25 #[S (showI n2),S (showI d2)])∧(ls 11=true->Blk W (aox.heap.size) 25 #[S (showI d2),S (showI (n2%d2))])) ⟨(λ_ _=>rfl),(xt kx ao9),(bz ao9),(ff rfl),(ff rfl),(ff rfl),(ff rfl),(ff rfl),(ff rfl),(ff rfl),(ff rfl),(ff rfl),(ff rfl),(λ_=>(be ao9 hB1)),(λh=>ff rfl h),(λ_=>(be ao9 hB2)),(λh=>ff rfl h)⟩ (by kernel_rfl) (by kernel_rfl) ?_ ?_;refine⟨λaum _ apa ari apb apm _=>?_,?_⟩;obtain⟨ap5,kx,zst,o4,r8,sc,aol,aom,aon,aoo,aop,aoq,aor,aot,aou,aos,aov⟩:=ari;obtain⟨aum,rfl⟩:=ovE ap5;have arj:apa 1=false:=(unl apb (i:=0) (j:=1) rfl apm)
 have ap6:apa 10=false:=(unl apb (i:=0) (j:=10) rfl apm);have ap7:apa 11=false:=(unl apb (i:=0) (j:=11) rfl apm);have aup:apa 3=false:=(unl apb (i:=1) (j:=3) rfl arj);have auq:=bz kx;have ark:=aot ap6;have arl:=aos ap7;refine go ?_;exact⟨rfl,_,(act_put _ _ _ _ _).symm,(same_upd rfl ap5),kx,om,(λ_=>rfl),r8,sc,aol,aom,aon,aoo,aop,aoq,aor,(λ_=>ark),(λarm=>ff ap6 arm),(λ_=>arl),(λarn=>ff ap7 arn)⟩;refine⟨λaro _ apc arp apn apo arq=>?_,?_⟩;obtain⟨arr,kx,zst,o4,r8,sc,aol,aom,aon,aoo,aop,aoq,aor,aot,aou,aos,aov⟩:=arp;obtain⟨aro,rfl⟩:=ovE arr;have ars:apc 0=true:=(arq 0 rfl);have auu:apc 3=false:=(unl apn (i:=1) (j:=3) rfl apo);have ap8:apc 10=false:=(unl apn (i:=1) (j:=10) rfl apo);have ap9:apc 11=false:=(unl apn (i:=1) (j:=11) rfl apo);have art:aro 64=.pointer (some ⟨w.heap.size,1,none⟩):=o4 ars;have auv:=bz kx;have aqa:=aot ap8;have aru:=aos ap9;refine go ?_;exact⟨rfl,_,(act_put _ _ _ _ _).symm,(same_upd rfl arr),kx,om,o4,(λ_=>rfl),sc,aol,aom,aon,aoo,aop,aoq,aor,(λ_=>aqa),(λarv=>ff ap8 arv),(λ_=>aru),(λarw=>ff ap9 arw)⟩;refine⟨λauy _ apq arx apr aps _=>?_,?_⟩;obtain⟨aqb,kx,zst,o4,r8,sc,aol,aom,aon,aoo,aop,aoq,aor,aot,aou,aos,aov⟩:=arx;obtain⟨auy,rfl⟩:=ovE aqb;have au1:apq 3=false:=(unl apr (i:=2) (j:=3) rfl aps)
 have aqc:apq 10=false:=(unl apr (i:=2) (j:=10) rfl aps);have aqd:apq 11=false:=(unl apr (i:=2) (j:=11) rfl aps);have au2:=bz kx;have ary:=aot aqc;have arz:=aos aqd;refine go ?_;exact⟨rfl,_,(act_put _ _ _ _ _).symm,(same_upd rfl aqb),kx,om,o4,r8,(λ_=>rfl),aol,aom,aon,aoo,aop,aoq,aor,(λ_=>ary),(λar0=>ff aqc ar0),(λ_=>arz),(λar1=>ff aqd ar1)⟩;refine⟨λaqe _ ao5 ar2 apt aqf aqg=>?_,?_⟩;obtain⟨ar3,kx,zst,o4,r8,sc,aol,aom,aon,aoo,aop,aoq,aor,aot,aou,aos,aov⟩:=ar2;obtain⟨aqe,rfl⟩:=ovE ar3;have ar4:ao5 2=true:=(aqg 2 rfl);have aqh:ao5 1=true:=(aqg 1 rfl);have au6:ao5 0=true:=(apt 1 0 rfl aqh);have aqi:ao5 10=false:=(unl apt (i:=3) (j:=10) rfl aqf);have aqj:ao5 11=false:=(unl apt (i:=3) (j:=11) rfl aqf);have ar5:aqe 65=S (showI d1):=r8 aqh;have ar6:aqe 66=S (showI (n1%d1)):=sc ar4;have au7:=bz kx;have aqk:=aot aqi;have au8:=bt aqk;have aql:=aos aqj;have au9:=bt aql;refine l_op (k_build (vs:=[(0,S (showI d1)),(1,S (showI (n1%d1)))]) (cells:=#[S (showI d1),S (showI (n1%d1))]) (pl:=[(0,1),(1,1)]) U36 inf36 (by kernel_rfl) (cons_eqp ar5 (cons_eqp ar6 rfl)) (by kernel_rfl) ?_);refine go ?_;exact⟨rfl,_,(act_put _ _ _ _ _).symm,(same_upd rfl ar3),kx,om,o4,r8,sc,(λ_=>rfl),aom,aon,aoo,aop,aoq,aor,(λ_=>aqk),(λar7=>ff aqi ar7),(λ_=>aql),(λar8=>ff aqj ar8)⟩
 refine⟨λavc _ apu ar9 apv aqm _=>?_,?_⟩;obtain⟨aqn,kx,zst,o4,r8,sc,aol,aom,aon,aoo,aop,aoq,aor,aot,aou,aos,aov⟩:=ar9;obtain⟨avc,rfl⟩:=ovE aqn;have asa:apu 5=false:=(unl apv (i:=4) (j:=5) rfl aqm);have aqo:apu 11=false:=(unl apv (i:=4) (j:=11) rfl aqm);have avf:apu 7=false:=(unl apv (i:=5) (j:=7) rfl asa);have avg:=bz kx;have asb:=aos aqo;refine go ?_;exact⟨rfl,_,(act_put _ _ _ _ _).symm,(same_upd rfl aqn),kx,om,o4,r8,sc,aol,(λ_=>rfl),aon,aoo,aop,aoq,aor,(λasc=>aot asc),(λasd=>aou asd),(λ_=>asb),(λase=>ff aqo ase)⟩;refine⟨λasf _ apw asg aqp aqq ash=>?_,?_⟩;obtain⟨asi,kx,zst,o4,r8,sc,aol,aom,aon,aoo,aop,aoq,aor,aot,aou,aos,aov⟩:=asg;obtain⟨asf,rfl⟩:=ovE asi;have asj:apw 4=true:=(ash 4 rfl);have avj:apw 7=false:=(unl aqp (i:=5) (j:=7) rfl aqq);have aqr:apw 11=false:=(unl aqp (i:=5) (j:=11) rfl aqq);have ask:asf 68=.pointer (some ⟨aox.heap.size,1,none⟩):=aom asj;have avk:=bz kx;have aqs:=aos aqr;refine go ?_;exact⟨rfl,_,(act_put _ _ _ _ _).symm,(same_upd rfl asi),kx,om,o4,r8,sc,aol,aom,(λ_=>rfl),aoo,aop,aoq,aor,(λasl=>aot asl),(λasm=>aou asm),(λ_=>aqs),(λaso=>ff aqr aso)⟩;refine⟨λavm _ aqt asp aqu aqv _=>?_,?_⟩;obtain⟨aqw,kx,zst,o4,r8,sc,aol,aom,aon,aoo,aop,aoq,aor,aot,aou,aos,aov⟩:=asp;obtain⟨avm,rfl⟩:=ovE aqw
 have avp:aqt 7=false:=(unl aqu (i:=6) (j:=7) rfl aqv);have aqx:aqt 11=false:=(unl aqu (i:=6) (j:=11) rfl aqv);have avq:=bz kx;have asq:=aos aqx;refine go ?_;exact⟨rfl,_,(act_put _ _ _ _ _).symm,(same_upd rfl aqw),kx,om,o4,r8,sc,aol,aom,aon,(λ_=>rfl),aop,aoq,aor,(λasr=>aot asr),(λass=>aou ass),(λ_=>asq),(λast=>ff aqx ast)⟩;refine⟨λaqy _ apd asu aqz asv aq0=>?_,?_⟩;obtain⟨asw,kx,zst,o4,r8,sc,aol,aom,aon,aoo,aop,aoq,aor,aot,aou,aos,aov⟩:=asu;obtain⟨aqy,rfl⟩:=ovE asw;have asx:apd 6=true:=(aq0 6 rfl);have aq1:apd 5=true:=(aq0 5 rfl);have avt:apd 4=true:=(aqz 5 4 rfl aq1);have aq2:apd 11=false:=(unl aqz (i:=7) (j:=11) rfl asv);have asy:aqy 69=S (showI d2):=aon aq1;have asz:aqy 70=S (showI (n2%d2)):=aoo asx;have avu:=bz kx;have aq3:=aos aq2;have avv:=bt aq3;refine l_op (k_build (vs:=[(0,S (showI d2)),(1,S (showI (n2%d2)))]) (cells:=#[S (showI d2),S (showI (n2%d2))]) (pl:=[(0,1),(1,1)]) U36 inf36 (by kernel_rfl) (cons_eqp asy (cons_eqp asz rfl)) (by kernel_rfl) ?_);refine go ?_;exact⟨rfl,_,(act_put _ _ _ _ _).symm,(same_upd rfl asw),kx,om,o4,r8,sc,aol,aom,aon,aoo,(λ_=>rfl),aoq,aor,(λas0=>aot as0),(λas1=>aou as1),(λ_=>aq3),(λas2=>ff aq2 as2)⟩;refine⟨λavx _ as3 as4 as5 as6 _=>?_,?_⟩
 obtain⟨aq4,kx,zst,o4,r8,sc,aol,aom,aon,aoo,aop,aoq,aor,aot,aou,aos,aov⟩:=as4;obtain⟨avx,rfl⟩:=ovE aq4;have av0:as3 9=false:=(unl as5 (i:=8) (j:=9) rfl as6);have av1:=bz kx;refine go ?_;exact⟨rfl,_,(act_put _ _ _ _ _).symm,(same_upd rfl aq4),kx,om,o4,r8,sc,aol,aom,aon,aoo,aop,(λ_=>rfl),aor,(λas7=>aot as7),(λas8=>aou as8),(λas9=>aos as9),(λata=>aov ata)⟩;refine⟨λatb _ atc atd _ _ ate=>?_,?_⟩;obtain⟨atf,kx,zst,o4,r8,sc,aol,aom,aon,aoo,aop,aoq,aor,aot,aou,aos,aov⟩:=atd;obtain⟨atb,rfl⟩:=ovE atf;have atg:atc 8=true:=(ate 8 rfl);have ath:atb 72=.int .i64 (sg):=aoq atg;have av5:=bz kx;refine l_op (k_neg (a:=sg) ath (by unfold In64;omega) ?_);refine go ?_;exact⟨rfl,_,(act_put _ _ _ _ _).symm,(same_upd rfl atf),kx,om,o4,r8,sc,aol,aom,aon,aoo,aop,aoq,(λ_=>rfl),(λati=>aot ati),(λatj=>aou atj),(λatk=>aos atk),(λatl=>aov atl)⟩;refine⟨λatm _ ao6 atn ape aq5 ato=>?_,?_⟩;obtain⟨aq6,kx,zst,o4,r8,sc,aol,aom,aon,aoo,aop,aoq,aor,aot,aou,aos,aov⟩:=atn;obtain⟨atm,rfl⟩:=ovE aq6;have apx:ao6 3=true:=(ato 3 rfl);have av7:ao6 2=true:=(ape 3 2 rfl apx);have atp:ao6 1=true:=(ape 3 1 rfl apx);have av8:ao6 0=true:=(ape 1 0 rfl atp);have aq7:ao6 11=false:=(unl ape (i:=10) (j:=11) rfl aq5);have atq:atm 67=.agg #[S (showI d1),S (showI (n1%d1))]:=aol apx
 have av9:=bz kx;have aq8:=aot aq5;have awa:=bt aq8;have apf:=aos aq7;have awb:=bt apf;refine SA aq8 (λ_ apy atr=>?_);have⟨apf,kx,_⟩:=pl1 apy apf kx;refine go ?_;exact⟨rfl,undef,rfl,aq6,kx,om,o4,r8,sc,aol,aom,aon,aoo,aop,aoq,aor,(λatt=>tf rfl att),(λ_=>atr),(λ_=>apf),(λatu=>ff aq7 atu)⟩;refine⟨λatv _ ao0 atw ao2 atx aq9=>?_,?_⟩;obtain⟨ara,kx,zst,o4,r8,sc,aol,aom,aon,aoo,aop,aoq,aor,aot,aou,aos,aov⟩:=atw;obtain⟨atv,rfl⟩:=ovE ara;have apz:ao0 10=true:=(aq9 10 rfl);have arb:ao0 3=true:=(ao2 10 3 rfl apz);have awh:ao0 2=true:=(ao2 3 2 rfl arb);have aty:ao0 1=true:=(ao2 3 1 rfl arb);have awi:ao0 0=true:=(ao2 1 0 rfl aty);have ap0:ao0 7=true:=(aq9 7 rfl);have awj:ao0 6=true:=(ao2 7 6 rfl ap0);have atz:ao0 5=true:=(ao2 7 5 rfl ap0);have awk:ao0 4=true:=(ao2 5 4 rfl atz);have at0:atv 71=.agg #[S (showI d2),S (showI (n2%d2))]:=aop ap0;have awl:=bz kx;have apg:=aou apz;have awm:=bt apg;have arc:=aos atx;have awn:=bt arc;refine SA arc (λ_ ap1 at1=>?_);have⟨apg,kx,_⟩:=pl1 ap1 apg kx;refine go ?_;exact⟨rfl,undef,rfl,ara,kx,om,o4,r8,sc,aol,aom,aon,aoo,aop,aoq,aor,(λat2=>tf apz at2),(λ_=>apg),(λat3=>tf rfl at3),(λ_=>at1)⟩;exact trivial;intro at4 _ _ ap2 at6;obtain⟨awu,kx,zst,o4,r8,sc,aol,aom,aon,aoo,aop,aoq,aor,aot,aou,aos,aov⟩:=at6
 obtain⟨at4,rfl⟩:=ovE awu;have awv:=bz kx;have ard:=aou (ap2 10 rfl);have aww:=bt ard;have arf:=aov (ap2 11 rfl);have awx:=bt arf;have at7:at4 73=.int .i64 (-sg):=(aor (ap2 9 rfl));refine go ?_;exact lend (hk:=by have:=Int.emod_lt_of_pos n1 p1;have:=Int.emod_nonneg n1 (Int.ne_of_gt p1);omega) ⟨d1,n1%d1,d2,n2%d2,-sg,rfl,rfl,(cp_go hi p1 p2 aoz aow ao4).2.1,(cp_go hi p1 p2 aoz aow ao4).2.2,fd1,(fz_mod fd1 p1),fd2,(fz_mod fd2 p2),om,(cp_go hi p1 p2 aoz aow ao4).1,kx,ard,arf⟩;refine go ?_;refine l_op (k_mul (a:=sg) (b:=cmpI (n1/d1) (n2/d2)) (c:=sg*cmpI (n1/d1) (n2/d2)) rfl rfl (in64_sg hsg) rfl ?_);refine go ?_;exact f_ret1 (t:=4) (v:=.int .i64 (sg*cmpI (n1/d1) (n2/d2))) rfl kx (congrArg (Value.int .i64) (cp_ne hi p1 p2 aoz)) rfl
theorem itoa_int (n:Int):Lib.itoa n=showI n:=by
  unfold Lib.itoa showI
  split
  · rw[decDigits_showN]
  · rw[decDigits_showN];congr 1;omega
def qR (a b:Int):R:=(showI (redN a b),showI (redD a b))
theorem makeR_q {a b:Int}(hb:b≠0):makeR a b=some (qR a b):=by unfold makeR;rw[if_neg hb];rfl
section
variable {w:World}{b:Nat}{x y:Int}{l m:List UInt8}
theorem wMul_ok (hB:Blk w b 73 #[.bool false])(ht:Tb w)(hl:l=showI x)(hm:m=showI y)(fx:Fz x)(fy:Fz y)(fz:Fz (x*y)):
    CL 49 #[pT b,S l,S m] w (RetA λv w'=>w.grownBy w' (some b)∧Blk w' b 73 #[.bool false]∧v=S (showI (x*y))):=by
  have h:=mul_ok hB ht l m
  subst hl hm
  rw[mulI_Z fx fy fz]at h
  exact h
theorem wAdd_ok (hB:Blk w b 73 #[.bool false])(ht:Tb w)(hl:l=showI x)(hm:m=showI y)(fx:Fz x)(fy:Fz y)(fz:Fz (x+y)):
    CL 87 #[pT b,.func (.func 51) #[] #[],S l,S m] w (RetA λv w'=>w.grownBy w' (some b)∧Blk w' b 73 #[.bool false]∧v=S (showI (x+y))):=by
  have h:=do_ok (o:=addI l m) hB ht en222 (λW hW=>iAdd_ok _ _ W hW)
  subst hl hm
  rw[addI_Z fx fy fz]at h
  exact h
theorem wRed_ok (hB:Blk w b 73 #[.bool false])(ht:Tb w)(hl:l=showI x)(hm:m=showI y)(fx:Fz x)(fy:Fz y)(h0:y≠0):
    CL 50 #[pT b,S l,S m] w (RetA λv w'=>w.grownBy w' (some b)∧(∃q,Blk w' b 73 #[.bool q])∧v=.tuple #[.agg #[S (qR x y).1,S (qR x y).2],.int .i64 0]):=by
  have h:=red_ok hB ht l m
  subst hl hm
  rw[redW_spec fx.int fy.int,valZ_showI,valZ_showI,makeR_q h0]at h
  exact h
theorem wCk_ok (hB:Blk w b 73 #[.bool false])(ht:Tb w){x y:List UInt8}{A:Option Addr}{n c lo:Nat}(hr:Rw w lo A [S x,S y])(hn:1=n)(hAb:∀ad,A=some ad->ad.block≠b)(ho:okR (x,y)=true):
    CL 48 #[pT b,.slice A n c] w (RetA λv w'=>w.grownBy w' (some b)∧Blk w' b 73 #[.bool false]∧v=.tuple #[]):=by
  have h:=check_ok (rs:=[(x,y)]) (c:=c) hB ht hr hn om hAb
  rw[show ckB false [(x,y)]=false by simp[ckB,ho]]at h
  exact h
end
def rdI (N D t:Int)(up:Bool):Int:=if up=true∧¬showI (N*t%D)=[48]then N*t/D+1 else N*t/D
def Qv (a b:Int):Value:=.tuple #[.agg #[S (qR a b).1,S (qR a b).2],.int .i64 0]
theorem rd_1 {N D t:Int}{up:Bool}(h:up=true)(h0:¬showI (N*t%D)=[48]):Qv (N*t/D+1) t=Qv (rdI N D t up) t:=by unfold rdI;rw[if_pos ⟨h,h0⟩]
theorem rd_0 {N D t:Int}{up:Bool}(h0:showI (N*t%D)=[48]):Qv (N*t/D) t=Qv (rdI N D t up) t:=by unfold rdI;rw[if_neg (λe=>e.2 h0)]
theorem rd_d {N D t:Int}{up:Bool}(h:up=false):Qv (N*t/D) t=Qv (rdI N D t up) t:=by unfold rdI;rw[if_neg (λe=>by rw[h]at e;exact absurd e.1 dc)]
theorem fz_inc {N D:Int}(h:N.natAbs<10^199)(hd:0<D):Fz (N/D+1):=by
  have h1:Fz (N/D):=fz_div (by unfold Fz;omega) hd
  have h2:(N/D).natAbs<10^199:=by
    rcases Int.le_total 0 N with h0|h0
    · have h1:=Int.ediv_nonneg h0 (Int.le_of_lt hd)
      have h2:=Int.ediv_le_self (b:=D) h0
      omega
    · have h1:N/D<=0:=Int.ediv_nonpos_of_nonpos_of_neg h0 hd
      have h2:N<=N/D:=by
        refine Int.le_ediv_of_mul_le hd ?_
        have h7:0<=(-N)*(D-1):=Int.mul_nonneg om om
        rw[Int.neg_mul,Int.mul_sub,Int.mul_one]at h7
        omega
      omega
  unfold Fz;omega
theorem rMakeZ_ok {l m:List UInt8}{a b:Int}{w:World}(hl:l=showI a)(hm:m=showI b)(fa:Fz a)(fb:Fz b)(h0:b≠0)(ht:Tb w):
    CL 72 #[S l,S m] w (Ret w λv w'=>v=.tuple #[.agg #[S (qR a b).1,S (qR a b).2],.int .i64 0]):=by
 subst hl hm;have ib:(!isInt (showI b))=false:=by rw[fb.int];rfl
 refine f_in Tryz.func72 rfl ?_;refine go ?_;refine al inf36 (λ_ aop o4=>?_);have ht:=Tb.ext aop.2 ht;have kx:=aop.2;refine go ?_;refine cl en102 (iValid_ok (showI a) _) ?_;rintro _ _ aom rfl;have ht:=Tb.ext aom.2 ht;have⟨o4,kx⟩:=be1 aom.2 o4 kx;refine go ?_;refine l_want (s:=10) rfl (congrArg Value.bool (congrArg Bool.not fa.int)) ?_;refine go ?_;refine l_want (s:=10) rfl (congrArg Value.bool (congrArg Bool.not fa.int)) ?_;refine cl en102 (iValid_ok (showI b) _) ?_;rintro _ r8 aon rfl;have ht:=Tb.ext aon.2 ht;have⟨o4,kx⟩:=be1 aon.2 o4 kx;refine l_want (s:=10) rfl (congrArg Value.bool (congrArg Bool.not fa.int)) ?_;refine go ?_;refine l_op (k_pick (t:=false) (v:=.bool (!(isInt (showI b)))) (congrArg Value.bool (congrArg Bool.not fa.int)) rfl ?_);refine l_op (k_build (vs:=[(0,.bool (!(isInt (showI b))))]) (cells:=#[.bool (!(isInt (showI b)))]) (pl:=[(0,1)]) U235 inf235 (by kernel_rfl) rfl (by kernel_rfl) ?_);refine bx (λaos aoo aot=>?_);have ht:=Tb.ext aoo.2 ht;have⟨o4,kx⟩:=be1 aoo.2 o4 kx;refine go ?_;have aoq:Blk aos (r8.heap.size) 73 #[.bool false]:=by have h:=aot;rw[ib]at h;exact h
 refine go ?_;refine l_op (k_callA (vs:=[pT r8.heap.size,S (showI a),S (showI b)]) en225 rfl (wRed_ok aoq ht rfl rfl fa fb h0) ?_);rintro _ _ ⟨sc,⟨ao1,aor⟩,rfl⟩;have o4:=Blk.gr sc (by simp;omega) o4;have kx:=low_gr kx sc (bz kx) (λg hgg=>by cases hgg;omega);have ao2:=sc.size;refine go ?_;refine SA o4 (λ_ aol aou=>?_);have⟨aor,kx,_⟩:=pl1 aol aor kx;refine go ?_;refine f_out (v:=.tuple #[.agg #[S (qR a b).1,S (qR a b).2],.int .i64 0]) (res2 (r1:=.cell 4 25) (r2:=.tmp 5) rfl ?_ ?_) kx rfl;refine res_cellA (t:=4) (cs:=[S (qR a b).1,S (qR a b).2]) (b:=w.heap.size) (o:=0) U36 rfl sz36 ?_ ?_;exact rfl;exact Blk.cells aou (i:=0) rfl;exact res_tmp (t:=5) (by exact rfl) _
theorem fromZ_ok {n:Int}{w:World}(hn:In64 n)(ht:Tb w):
    CL 73 #[.int .i64 n] w (Ret w λv w'=>v=S (showI n)):=by
 have h1:-9223372036854775808<=n:=by unfold In64 at hn;omega
 have h2:n<=9223372036854775807:=by unfold In64 at hn;omega
 refine f_in Tryz.func73 rfl ?_;refine go ?_;refine cl en131 (cEq (Y:=S (showI n)) (itoa_ok _ _ h1 h2 (ht.ext (Ext.refl _))) (congrArg S (itoa_int n))) ?_;rintro _ _ kx rfl;have o4:=kx.2;refine go ?_;exact f_ret1 (t:=2) (v:=S (showI n)) rfl o4 rfl rfl
theorem fz64 {n:Int}(h:In64 n):Fz n:=by unfold In64 at h;unfold Fz;omega
theorem rOfZ_ok {a b:Int}{w:World}(ha:In64 a)(hb:In64 b)(h0:b≠0)(ht:Tb w):
    CL 34 #[.int .i64 a,.int .i64 b] w (Ret w λv w'=>v=.tuple #[.agg #[S (qR a b).1,S (qR a b).2],.int .i64 0]):=by
 refine f_in Tryz.func34 rfl ?_;refine go ?_;refine al inf36 (λ_ aon o4=>?_);have kx:=aon.2;refine go ?_;refine cl en1067 (fromZ_ok ha (ht.ext kx)) ?_;rintro _ _ r8 rfl;have⟨o4,kx⟩:=be1 r8.2 o4 kx;refine go ?_;refine cl en1067 (fromZ_ok hb (ht.ext kx)) ?_;rintro _ _ sc rfl;have⟨o4,kx⟩:=be1 sc.2 o4 kx;refine cl en1046 (rMakeZ_ok rfl rfl (fz64 ha) (fz64 hb) h0 (ht.ext kx)) ?_;rintro _ _ aol rfl;have⟨o4,kx⟩:=be1 aol.2 o4 kx;refine go ?_;refine SA o4 (λ_ aom aoo=>?_);have kx:=plw aom kx;have aox:=psz aom;refine go ?_;refine f_out (v:=.tuple #[.agg #[S (qR a b).1,S (qR a b).2],.int .i64 0]) (res2 (r1:=.cell 4 25) (r2:=.tmp 5) rfl ?_ ?_) kx rfl;refine res_cellA (t:=4) (cs:=[S (qR a b).1,S (qR a b).2]) (b:=w.heap.size) (o:=0) U36 rfl sz36 ?_ ?_;exact rfl;exact Blk.cells aoo (i:=0) rfl;exact res_tmp (t:=5) (by exact rfl) _
theorem rRound_ok {N D:Int}{pl:Nat}{up:Bool}{w:World}(ho:okR (showI N,showI D)=true)(fN:Fz N)(fD:Fz D)(hp:pl<=30)(hNT:(N*((10^pl:Nat):Int)).natAbs<10^199)(ht:Tb w):
    CL 129 #[.agg #[S (showI N),S (showI D)],.int .i64 pl,.bool up] w (Ret w λv w'=>v=Qv (rdI N D (((10^pl:Nat):Int)) up) (((10^pl:Nat):Int))):=by
 have h10:((10^pl:Nat):Int)≠0:=by have:=Nat.pow_pos (n:=pl) (show 0<10 by decide);omega
 have pD:0<D:=by have:=okR_pos ho;rwa [valZ_showI]at this
 have fNT:Fz (N*((10^pl:Nat):Int)):=(by unfold Fz;omega);have ao3:pl<200:=om;have fT:Fi (10^pl):=Nat.pow_lt_pow_right dc om;refine f_in Tryz.func129 rfl ?_;refine go ?_;refine bx (λaom ao8 o4=>?_);have ht:=Tb.ext ao8.2 ht;have kx:=ao8.2;refine al inf36 (λsc ao7 r8=>?_);have ht:=Tb.ext ao7.2 ht;have⟨o4,kx⟩:=be1 ao7.2 o4 kx;refine go ?_;refine l_op (k_build (vs:=[(0,.bool (decide (30<(pl:Int))))]) (cells:=#[.bool (decide (30<(pl:Int)))]) (pl:=[(0,1)]) U235 inf235 (by kernel_rfl) rfl (by kernel_rfl) ?_);refine bx (λao9 ao4 ape=>?_);have ht:=Tb.ext ao4.2 ht;have⟨o4,r8,kx⟩:=be2 ao4.2 o4 r8 kx;refine go ?_;have ao5:Blk ao9 (sc.heap.size) 73 #[.bool false]:=by have h:=ape;rw[decide_eq_false om]at h;exact h
 refine go ?_;refine BS (λ_ aon _ apf=>?_);have ht:=Tb.ext aon ht;have⟨o4,r8,ao5,kx⟩:=be3 aon o4 r8 ao5 kx;have apl:=bz aon;refine l_op (k_callA (vs:=[pT sc.heap.size,.slice (some ⟨ao9.heap.size,0,none⟩) 1 1]) en223 rfl (wCk_ok ao5 ht (Rw.of_own apf) rfl (λ_ e=>by cases e;simp;omega) ho) ?_);rintro _ _ ⟨aop,aoq,rfl⟩;have ht:=Tb.gr aop ao5 dc ht;have o4:=Blk.gr aop (by simp;omega) o4;have r8:=Blk.gr aop (by simp;omega) r8;have kx:=low_gr kx aop (bz kx) (λg hgg=>by cases hgg;omega);have apo:=aop.size;refine go ?_;refine clb en132 (hc:=repeat_ok [48] pl _ om dc) (hk:=?_);rintro _ _ aor rfl;have ht:=Tb.ext aor.2 ht;have⟨o4,r8,aoq,kx⟩:=be3 aor.2 o4 r8 aoq kx;refine l_op (k_addS (a:=[49]) (b:=Lib.repeatL [48] pl) rfl rfl (by rw[zeros_str];simp;omega) ?_);refine go ?_;refine l_op (k_callA (vs:=[pT sc.heap.size,S (showI N),S (([49])++(Lib.repeatL [48] pl))]) en224 rfl (wMul_ok aoq ht rfl (one_str ao3) fN fT.z fNT) ?_);rintro _ _ ⟨aos,aot,rfl⟩;have ht:=Tb.gr aos aoq dc ht;have o4:=Blk.gr aos (by simp;omega) o4;have r8:=Blk.gr aos (by simp;omega) r8;have kx:=low_gr kx aos (bz kx) (λg hgg=>by cases hgg;omega);have apu:=aos.size;refine go ?_;refine cl en83 (cEq (Y:=.tuple #[S (showI (N*(((10^pl:Nat):Int))/D)),S (showI (N*(((10^pl:Nat):Int))%D)),.int .i64 0]) (iDiv_ok _ _ _ ht) (congrArg resD (divI_Z fNT fD (Int.ne_of_gt pD) (fz_div fNT pD)))) ?_
 rintro _ _ aou rfl;have ht:=Tb.ext aou.2 ht;have⟨o4,r8,aot,kx⟩:=be3 aou.2 o4 r8 aot kx;refine go ?_;refine SO aot (λ_ aov aoo=>?_);have ht:=Tb.put aov aot dc ht;have⟨o4,r8,kx,_⟩:=pl2 aov o4 r8 kx;refine go ?_;rcases Bool.eq_false_or_eq_true up with aol|aol;refine go ?_;refine nes (b:=[48]) ?_;refine go ?_;by_cases ao6:(showI (N*(((10^pl:Nat):Int))%D))=([48]);refine go ?_;refine l_op (k_callA (vs:=[pT sc.heap.size,S (showI (N*(((10^pl:Nat):Int))/D)),S (([49])++(Lib.repeatL [48] pl))]) en225 rfl (wRed_ok aoo ht rfl (one_str ao3) (fz_div fNT pD) fT.z h10) ?_);rintro _ _ ⟨aow,⟨ap1,apa⟩,rfl⟩;have o4:=Blk.gr aow (by simp;omega) o4;have r8:=Blk.gr aow (by simp;omega) r8;have kx:=low_gr kx aow (bz kx) (λg hgg=>by cases hgg;omega);have ap2:=aow.size;refine go ?_;refine SA r8 (λ_ aox apg=>?_);have⟨o4,apa,kx,_⟩:=pl2 aox o4 apa kx;refine go ?_;refine f_out (v:=.tuple #[.agg #[S ((qR (N*(((10^pl:Nat):Int))/D) (((10^pl:Nat):Int))).1),S ((qR (N*(((10^pl:Nat):Int))/D) (((10^pl:Nat):Int))).2)],.int .i64 0]) (res2 (r1:=.cell 6 25) (r2:=.tmp 7) rfl ?_ ?_) kx (rd_0 ao6)
 refine res_cellA (t:=6) (cs:=[S ((qR (N*(((10^pl:Nat):Int))/D) (((10^pl:Nat):Int))).1),S ((qR (N*(((10^pl:Nat):Int))/D) (((10^pl:Nat):Int))).2)]) (b:=aom.heap.size) (o:=0) U36 rfl sz36 ?_ ?_;exact rfl;exact Blk.cells apg (i:=0) rfl;exact res_tmp (t:=7) (by exact rfl) _;refine go ?_;refine l_op (k_callA (vs:=[pT sc.heap.size,.func (.func 51) #[] #[],S (showI (N*(((10^pl:Nat):Int))/D)),S ([49])]) en227 rfl (wAdd_ok aoo ht rfl lit1 (fz_div fNT pD) (by unfold Fz;decide) (fz_inc hNT pD)) ?_);rintro _ _ ⟨aoy,apb,rfl⟩;have ht:=Tb.gr aoy aoo dc ht;have o4:=Blk.gr aoy (by simp;omega) o4;have r8:=Blk.gr aoy (by simp;omega) r8;have kx:=low_gr kx aoy (bz kx) (λg hgg=>by cases hgg;omega);have ap7:=aoy.size;refine go ?_;refine l_op (k_callA (vs:=[pT sc.heap.size,S (showI (N*(((10^pl:Nat):Int))/D+1)),S (([49])++(Lib.repeatL [48] pl))]) en225 rfl (wRed_ok apb ht rfl (one_str ao3) (fz_inc hNT pD) fT.z h10) ?_);rintro _ _ ⟨aoz,⟨aqa,apc⟩,rfl⟩;have o4:=Blk.gr aoz (by simp;omega) o4;have r8:=Blk.gr aoz (by simp;omega) r8;have kx:=low_gr kx aoz (bz kx) (λg hgg=>by cases hgg;omega);have aqb:=aoz.size;refine go ?_;refine SA r8 (λ_ ao0 aph=>?_);have⟨o4,apc,kx,_⟩:=pl2 ao0 o4 apc kx;refine go ?_
 refine f_out (v:=.tuple #[.agg #[S ((qR (N*(((10^pl:Nat):Int))/D+1) (((10^pl:Nat):Int))).1),S ((qR (N*(((10^pl:Nat):Int))/D+1) (((10^pl:Nat):Int))).2)],.int .i64 0]) (res2 (r1:=.cell 6 25) (r2:=.tmp 7) rfl ?_ ?_) kx (rd_1 aol ao6);refine res_cellA (t:=6) (cs:=[S ((qR (N*(((10^pl:Nat):Int))/D+1) (((10^pl:Nat):Int))).1),S ((qR (N*(((10^pl:Nat):Int))/D+1) (((10^pl:Nat):Int))).2)]) (b:=aom.heap.size) (o:=0) U36 rfl sz36 ?_ ?_;exact rfl;exact Blk.cells aph (i:=0) rfl;exact res_tmp (t:=7) (by exact rfl) _;refine go ?_;refine l_op (k_callA (vs:=[pT sc.heap.size,S (showI (N*(((10^pl:Nat):Int))/D)),S (([49])++(Lib.repeatL [48] pl))]) en225 rfl (wRed_ok aoo ht rfl (one_str ao3) (fz_div fNT pD) fT.z h10) ?_);rintro _ _ ⟨ao1,⟨aqg,apd⟩,rfl⟩;have o4:=Blk.gr ao1 (by simp;omega) o4;have r8:=Blk.gr ao1 (by simp;omega) r8;have kx:=low_gr kx ao1 (bz kx) (λg hgg=>by cases hgg;omega);have aqh:=ao1.size;refine go ?_;refine SA r8 (λ_ ao2 api=>?_);have⟨o4,apd,kx,_⟩:=pl2 ao2 o4 apd kx;refine go ?_;refine f_out (v:=.tuple #[.agg #[S ((qR (N*(((10^pl:Nat):Int))/D) (((10^pl:Nat):Int))).1),S ((qR (N*(((10^pl:Nat):Int))/D) (((10^pl:Nat):Int))).2)],.int .i64 0]) (res2 (r1:=.cell 6 25) (r2:=.tmp 7) rfl ?_ ?_) kx (rd_d aol)
 refine res_cellA (t:=6) (cs:=[S ((qR (N*(((10^pl:Nat):Int))/D) (((10^pl:Nat):Int))).1),S ((qR (N*(((10^pl:Nat):Int))/D) (((10^pl:Nat):Int))).2)]) (b:=aom.heap.size) (o:=0) U36 rfl sz36 ?_ ?_;exact rfl;exact Blk.cells api (i:=0) rfl;exact res_tmp (t:=7) (by exact rfl) _
theorem rDown_ok {N D:Int}{pl:Nat}{w:World}(ho:okR (showI N,showI D)=true)(fN:Fz N)(fD:Fz D)(hp:pl<=30)(hNT:(N*((10^pl:Nat):Int)).natAbs<10^199)(ht:Tb w):
    CL 79 #[.agg #[S (showI N),S (showI D)],.int .i64 pl] w (Ret w λv w'=>v=.tuple #[.agg #[S ((qR (rdI N D (((10^pl:Nat):Int)) false) (((10^pl:Nat):Int))).1),S ((qR (rdI N D (((10^pl:Nat):Int)) false) (((10^pl:Nat):Int))).2)],.int .i64 0]):=by
 refine f_in Tryz.func79 rfl ?_;refine go ?_;refine bx (λaom aoo o4=>?_);have kx:=aoo.2;refine al inf36 (λ_ aon r8=>?_);have⟨o4,kx⟩:=be1 aon.2 o4 kx;refine go ?_;refine cl en1129 (rRound_ok ho fN fD hp hNT (ht.ext kx)) ?_;rintro _ _ sc rfl;have⟨o4,r8,kx⟩:=be2 sc.2 o4 r8 kx;refine go ?_;refine SA r8 (λ_ aol aop=>?_);have⟨o4,kx,_⟩:=pl1 aol o4 kx;refine go ?_;refine f_out (v:=.tuple #[.agg #[S ((qR (rdI N D (((10^pl:Nat):Int)) false) (((10^pl:Nat):Int))).1),S ((qR (rdI N D (((10^pl:Nat):Int)) false) (((10^pl:Nat):Int))).2)],.int .i64 0]) (res2 (r1:=.cell 4 25) (r2:=.tmp 5) rfl ?_ ?_) kx rfl;refine res_cellA (t:=4) (cs:=[S ((qR (rdI N D (((10^pl:Nat):Int)) false) (((10^pl:Nat):Int))).1),S ((qR (rdI N D (((10^pl:Nat):Int)) false) (((10^pl:Nat):Int))).2)]) (b:=aom.heap.size) (o:=0) U36 rfl sz36 ?_ ?_;exact rfl;exact Blk.cells aop (i:=0) rfl;exact res_tmp (t:=5) (by exact rfl) _
theorem rUp_ok {N D:Int}{pl:Nat}{w:World}(ho:okR (showI N,showI D)=true)(fN:Fz N)(fD:Fz D)(hp:pl<=30)(hNT:(N*((10^pl:Nat):Int)).natAbs<10^199)(ht:Tb w):
    CL 80 #[.agg #[S (showI N),S (showI D)],.int .i64 pl] w (Ret w λv w'=>v=.tuple #[.agg #[S ((qR (rdI N D (((10^pl:Nat):Int)) true) (((10^pl:Nat):Int))).1),S ((qR (rdI N D (((10^pl:Nat):Int)) true) (((10^pl:Nat):Int))).2)],.int .i64 0]):=by
 refine f_in Tryz.func80 rfl ?_;refine go ?_;refine bx (λaom aoo o4=>?_);have kx:=aoo.2;refine al inf36 (λ_ aon r8=>?_);have⟨o4,kx⟩:=be1 aon.2 o4 kx;refine go ?_;refine cl en1129 (rRound_ok ho fN fD hp hNT (ht.ext kx)) ?_;rintro _ _ sc rfl;have⟨o4,r8,kx⟩:=be2 sc.2 o4 r8 kx;refine go ?_;refine SA r8 (λ_ aol aop=>?_);have⟨o4,kx,_⟩:=pl1 aol o4 kx;refine go ?_;refine f_out (v:=.tuple #[.agg #[S ((qR (rdI N D (((10^pl:Nat):Int)) true) (((10^pl:Nat):Int))).1),S ((qR (rdI N D (((10^pl:Nat):Int)) true) (((10^pl:Nat):Int))).2)],.int .i64 0]) (res2 (r1:=.cell 4 25) (r2:=.tmp 5) rfl ?_ ?_) kx rfl;refine res_cellA (t:=4) (cs:=[S ((qR (rdI N D (((10^pl:Nat):Int)) true) (((10^pl:Nat):Int))).1),S ((qR (rdI N D (((10^pl:Nat):Int)) true) (((10^pl:Nat):Int))).2)]) (b:=aom.heap.size) (o:=0) U36 rfl sz36 ?_ ?_;exact rfl;exact Blk.cells aop (i:=0) rfl;exact res_tmp (t:=5) (by exact rfl) _
end Go.Proofs.YtmehbpjpbbhohaaGreatDoor
