/- Part of the proof of a statement about decisions. -/
import Derived.Test.YtinldhphnpflaaaGreatDoorRat1ToSp2
import Derived.Test.YtinldhphnpflaaaGreatDoorEngPToEngH
import Derived.Test.YtinldhphnpflaaaGreatDoorInt9ToRatS
set_option linter.all false
namespace Go.Proofs.YtinldhphnpflaaaGreatDoor
open Go Go.Eng Go.RowKit
attribute [local irreducible] wpListIn Code.wpIn Oper.wpIn Exit.then Exit.inBlock Exit.noGoto
set_option maxHeartbeats 40000000
theorem bk_last {T:Nat->N2}{m k:Nat}(h:SumR T m)(hk:k<=m):Bk 99 (lstP T k):=by
  cases k with
  |zero=>exact⟨by simp[lstP],by simp[lstP]⟩
  |succ p=>exact(h.bd p om).mono dc
set_option maxRecDepth 100000 in
theorem sum_ok {T:Nat->N2}{m gn b1 b2 sO pl:Nat}{lbn:Array Value}{w:World}(hR:SumR T m)(hS:Sc sO)(hB1:Blk w b1 101 #[S (nS (T 0).1),S (nS (T 0).2)])(hB2:Blk w b2 175 #[fv gn lbn])(hen:Enters Tryz.prog gn)(hn:∀k<m,∀W,Ext w W->CL gn (#[vN (T k),.int .i64 ((k+1:Nat):Int)]++lbn) W (Ret W λv _=>v=vN (T (k+1))))(ht:Tb w):
    CL 142 #[.agg #[.int .i64 pl,S (nS sO)],.func (.func 181) #[] #[pT b1,pT b2]] w (Ret w λv w'=>v=.agg #[S (nS ((resP T m).1)),S (nS ((resP T m).2))]):=by
 refine f_inM Tryz.func142 rfl ?_;refine go ?_;refine bx (λaos ari aqo=>?_);have r8:=ari.2;refine al inf1056 (λap5 aq0 arj=>?_);have⟨aqo,r8⟩:=be1 aq0.2 aqo r8;refine go ?_;have aqb:=Ext.drew ap5
 refine c_st2 hmix 7 (λe0 ls e W=>∃sc:Nat,∃aol:Nat,∃aom:Nat,(∀t,inB [5,6,7,10,11,12,13] t=false->e t=e0 t)∧(Ext w W)∧(ap5.heap.size<=W.heap.size)∧(ls 0=true->e 10=.agg #[.int .i64 pl,S (nS sO)])∧(ls 1=true->e 11=.agg #[S (nS 0),S (nS 0)])∧(ls 2=true->e 12=.agg #[.int .i64 pl,S (nS sO)])∧(ls 3=true->e 13=.agg #[S (nS 0),S (nS 0)])∧(ls 4=true->e 5=pT sc)∧(ls 5=true->e 6=pT aol)∧(ls 6=true->e 7=pT aom)∧(ls 4=true->ap5.heap.size<=sc)∧(ls 5=true->ap5.heap.size<=aol)∧(ls 6=true->ap5.heap.size<=aom)∧(ls 4=true->ls 5=true->sc≠aol)∧(ls 4=true->ls 6=true->sc≠aom)∧(ls 5=true->ls 6=true->aol≠aom)∧(Blk W (w.heap.size) 65 #[.int .i64 pl,S (nS sO)])∧(Blk W (aos.heap.size) 101 #[S ([]),S ([])])∧(ls 4=true->Blk W sc 101 #[S ([]),S ([])])∧(ls 5=true->Blk W aol 101 #[S ([]),S ([])])∧(ls 6=true->Blk W aom 4 #[.bool false])) ⟨0,0,0,(λ_ _=>rfl),(xt r8 aqb),(bz aqb),(ff rfl),(ff rfl),(ff rfl),(ff rfl),(ff rfl),(ff rfl),(ff rfl),(ff rfl),(ff rfl),(ff rfl),(λh _=>ff rfl h),(λh _=>ff rfl h),(λh _=>ff rfl h),(be aqb aqo),(be aqb arj),(λh=>ff rfl h),(λh=>ff rfl h),(λh=>ff rfl h)⟩ (by kernel_rfl) (by kernel_rfl) ?_ ?_;refine⟨λatg aq1 aq2 ark aq3 arl _=>?_,?_⟩
 obtain⟨sc,aol,aom,aq4,r8,zst,aov,aow,aox,aoy,aoz,ao0,ao1,ao2,ao3,ao4,ao5,ao6,ao7,aot,aou,aop,aoq,aor⟩:=ark;obtain⟨atg,rfl⟩:=ovE aq4;have arm:aq2 1=false:=(unl aq3 (i:=0) (j:=1) rfl arl);have ati:aq2 3=false:=(unl aq3 (i:=1) (j:=3) rfl arm);have atj:=bz r8;have aqp:Blk aq1 (w.heap.size) 65 #[.int .i64 pl,S (nS sO)]:=aot;have atk:=bt aqp;have aq5:Blk aq1 (aos.heap.size) 101 #[S ([]),S ([])]:=aou;have atl:=bt aq5;refine go ?_;exact⟨rfl,_,(act_put _ _ _ _ _).symm,sc,aol,aom,(same_upd rfl aq4),r8,om,(λ_=>rfl),aow,aox,aoy,aoz,ao0,ao1,ao2,ao3,ao4,ao5,ao6,ao7,(aqp),(aq5),(λarn=>aop arn),(λaro=>aoq aro),(λarp=>aor arp)⟩;refine⟨λarq aq6 aq7 arr ars art aru=>?_,?_⟩;obtain⟨sc,aol,aom,arv,r8,zst,aov,aow,aox,aoy,aoz,ao0,ao1,ao2,ao3,ao4,ao5,ao6,ao7,aot,aou,aop,aoq,aor⟩:=arr;obtain⟨arq,rfl⟩:=ovE arv;have arw:aq7 0=true:=(aru 0 rfl);have atm:aq7 3=false:=(unl ars (i:=1) (j:=3) rfl art);have arx:arq 10=.agg #[.int .i64 pl,S (nS sO)]:=aov arw;have atn:=bz r8;have aqc:Blk aq6 (w.heap.size) 65 #[.int .i64 pl,S (nS sO)]:=aot;have ato:=bt aqc;have aqd:Blk aq6 (aos.heap.size) 101 #[S ([]),S ([])]:=aou;have atp:=bt aqd;refine cl en1030 (spWhole0_ok hS (ht.ext r8)) ?_ (cons_eq arx (cons_eq rfl rfl));rintro _ _ apv rfl;have⟨aqc,aqd,r8⟩:=be2 apv.2 aqc aqd r8;refine go ?_
 exact⟨rfl,_,(act_put _ _ _ _ _).symm,sc,aol,aom,(same_upd rfl arv),r8,om,aov,(λ_=>rfl),aox,aoy,aoz,ao0,ao1,ao2,ao3,ao4,ao5,ao6,ao7,(aqc),(aqd),(λary=>(be apv.2 (aop ary))),(λarz=>(be apv.2 (aoq arz))),(λar0=>(be apv.2 (aor ar0)))⟩;refine⟨λatt aq8 ar1 ar2 ar3 ar4 _=>?_,?_⟩;obtain⟨sc,aol,aom,aq9,r8,zst,aov,aow,aox,aoy,aoz,ao0,ao1,ao2,ao3,ao4,ao5,ao6,ao7,aot,aou,aop,aoq,aor⟩:=ar2;obtain⟨att,rfl⟩:=ovE aq9;have atv:ar1 3=false:=(unl ar3 (i:=2) (j:=3) rfl ar4);have atw:=bz r8;have aqq:Blk aq8 (w.heap.size) 65 #[.int .i64 pl,S (nS sO)]:=aot;have atx:=bt aqq;have ara:Blk aq8 (aos.heap.size) 101 #[S ([]),S ([])]:=aou;have aty:=bt ara;refine go ?_;exact⟨rfl,_,(act_put _ _ _ _ _).symm,sc,aol,aom,(same_upd rfl aq9),r8,om,aov,aow,(λ_=>rfl),aoy,aoz,ao0,ao1,ao2,ao3,ao4,ao5,ao6,ao7,(aqq),(ara),(λar5=>aop ar5),(λar6=>aoq ar6),(λar7=>aor ar7)⟩;refine⟨λar8 arb aqr ar9 asa _ arc=>?_,?_⟩;obtain⟨sc,aol,aom,asb,r8,zst,aov,aow,aox,aoy,aoz,ao0,ao1,ao2,ao3,ao4,ao5,ao6,ao7,aot,aou,aop,aoq,aor⟩:=ar9;obtain⟨ar8,rfl⟩:=ovE asb;have asc:aqr 1=true:=(arc 1 rfl);have at0:aqr 0=true:=(asa 1 0 rfl asc);have asd:aqr 2=true:=(arc 2 rfl);have ase:ar8 12=.agg #[.int .i64 pl,S (nS sO)]:=aox asd;have at1:=bz r8;have aqe:Blk arb (w.heap.size) 65 #[.int .i64 pl,S (nS sO)]:=aot
 have at2:=bt aqe;have aqf:Blk arb (aos.heap.size) 101 #[S ([]),S ([])]:=aou;have at3:=bt aqf;refine cl en1030 (spWhole0_ok hS (ht.ext r8)) ?_ (cons_eq ase (cons_eq rfl rfl));rintro _ _ apw rfl;have⟨aqe,aqf,r8⟩:=be2 apw.2 aqe aqf r8;refine go ?_;exact⟨rfl,_,(act_put _ _ _ _ _).symm,sc,aol,aom,(same_upd rfl asb),r8,om,aov,aow,aox,(λ_=>rfl),aoz,ao0,ao1,ao2,ao3,ao4,ao5,ao6,ao7,(aqe),(aqf),(λasf=>(be apw.2 (aop asf))),(λasg=>(be apw.2 (aoq asg))),(λash=>(be apw.2 (aor ash)))⟩;refine⟨λat7 aqs _ asi _ _ _=>?_,?_⟩;obtain⟨sc,aol,aom,asj,r8,zst,aov,aow,aox,aoy,aoz,ao0,ao1,ao2,ao3,ao4,ao5,ao6,ao7,aot,aou,aop,aoq,aor⟩:=asi;obtain⟨at7,rfl⟩:=ovE asj;have auc:=bz r8;have aqg:Blk aqs (w.heap.size) 65 #[.int .i64 pl,S (nS sO)]:=aot;have aud:=bt aqg;have aqh:Blk aqs (aos.heap.size) 101 #[S ([]),S ([])]:=aou;have aue:=bt aqh;refine al inf1056 (λ_ ap6 ask=>?_);have⟨aqg,aqh,r8⟩:=be2 ap6.2 aqg aqh r8;refine go ?_;exact⟨rfl,_,(act_put _ _ _ _ _).symm,aqs.heap.size,aol,aom,(same_upd rfl asj),r8,om,aov,aow,aox,aoy,(λ_=>rfl),ao0,ao1,(λ_=>om),ao3,ao4,(λ_ asl=>(by have:=bt (aoq asl);omega)),(λ_ asm=>(by have:=bt (aor asm);omega)),ao7,(aqg),(aqh),(λ_=>ask),(λaso=>(be ap6.2 (aoq aso))),(λasp=>(be ap6.2 (aor asp)))⟩;refine⟨λauh aqt _ asq _ _ _=>?_,?_⟩
 obtain⟨sc,aol,aom,asr,r8,zst,aov,aow,aox,aoy,aoz,ao0,ao1,ao2,ao3,ao4,ao5,ao6,ao7,aot,aou,aop,aoq,aor⟩:=asq;obtain⟨auh,rfl⟩:=ovE asr;have aum:=bz r8;have aqi:Blk aqt (w.heap.size) 65 #[.int .i64 pl,S (nS sO)]:=aot;have aun:=bt aqi;have aqj:Blk aqt (aos.heap.size) 101 #[S ([]),S ([])]:=aou;have auo:=bt aqj;refine al inf1056 (λ_ ap7 ass=>?_);have⟨aqi,aqj,r8⟩:=be2 ap7.2 aqi aqj r8;refine go ?_;exact⟨rfl,_,(act_put _ _ _ _ _).symm,sc,aqt.heap.size,aom,(same_upd rfl asr),r8,om,aov,aow,aox,aoy,aoz,(λ_=>rfl),ao1,ao2,(λ_=>om),ao4,(λast _=>(by have:=bt (aop ast);omega)),ao6,(λ_ asu=>(by have:=bt (aor asu);omega)),(aqi),(aqj),(λasv=>(be ap7.2 (aop asv))),(λ_=>ass),(λasw=>(be ap7.2 (aor asw)))⟩;refine⟨λaur aqu _ asx _ _ _=>?_,?_⟩;obtain⟨sc,aol,aom,asy,r8,zst,aov,aow,aox,aoy,aoz,ao0,ao1,ao2,ao3,ao4,ao5,ao6,ao7,aot,aou,aop,aoq,aor⟩:=asx;obtain⟨aur,rfl⟩:=ovE asy;have auw:=bz r8;have aqk:Blk aqu (w.heap.size) 65 #[.int .i64 pl,S (nS sO)]:=aot;have aux:=bt aqk;have aql:Blk aqu (aos.heap.size) 101 #[S ([]),S ([])]:=aou;have auy:=bt aql;refine al inf4 (λ_ ap8 asz=>?_);have⟨aqk,aql,r8⟩:=be2 ap8.2 aqk aql r8;refine go ?_
 exact⟨rfl,_,(act_put _ _ _ _ _).symm,sc,aol,aqu.heap.size,(same_upd rfl asy),r8,om,aov,aow,aox,aoy,aoz,ao0,(λ_=>rfl),ao2,ao3,(λ_=>om),ao5,(λas0 _=>(by have:=bt (aop as0);omega)),(λas1 _=>(by have:=bt (aoq as1);omega)),(aqk),(aql),(λas2=>(be ap8.2 (aop as2))),(λas3=>(be ap8.2 (aoq as3))),(λ_=>asz)⟩;exact trivial;intro apk ap9 _ aoo as4;obtain⟨sc,aol,aom,aqv,r8,zst,aov,aow,aox,aoy,aoz,ao0,ao1,ao2,ao3,ao4,ao5,ao6,ao7,aot,aou,aop,aoq,aor⟩:=as4;obtain⟨apk,rfl⟩:=ovE aqv;have au2:=bz r8;have au3:=ao2 (aoo 4 rfl);have au4:=ao3 (aoo 5 rfl);have au5:=ao4 (aoo 6 rfl);have au6:=ao5 (aoo 4 rfl) (aoo 5 rfl);have au7:=ao6 (aoo 4 rfl) (aoo 6 rfl);have au8:=ao7 (aoo 5 rfl) (aoo 6 rfl);have ao8:Blk ap9 (w.heap.size) 65 #[.int .i64 pl,S (nS sO)]:=aot;have au9:=bt ao8;have ao9:Blk ap9 (aos.heap.size) 101 #[S ([]),S ([])]:=aou;have ava:=bt ao9;have ard:Blk ap9 sc 101 #[S ([]),S ([])]:=aop (aoo 4 rfl);have avb:=bt ard;have aqm:Blk ap9 aol 101 #[S ([]),S ([])]:=aoq (aoo 5 rfl);have avc:=bt aqm;have apx:Blk ap9 aom 4 #[.bool false]:=aor (aoo 6 rfl);have avd:=bt apx;have apy:apk 5=pT sc:=(aoz (aoo 4 rfl));have as5:apk 11=.agg #[S (nS 0),S (nS 0)]:=(aow (aoo 1 rfl));refine SA ard (λ_ apz apa=>?_);have⟨ao8,ao9,aqm,apx,r8,_⟩:=pl4 apz ao8 ao9 aqm apx r8;have aqw:apk 6=pT aol:=(ao0 (aoo 5 rfl))
 have as6:apk 13=.agg #[S (nS 0),S (nS 0)]:=(aoy (aoo 3 rfl));refine SA aqm (λ_ ap0 apl=>?_);have⟨ao8,ao9,apa,apx,r8,_⟩:=pl4 ap0 ao8 ao9 apa apx r8;have aqx:apk 7=pT aom:=(ao1 (aoo 6 rfl));refine SO apx (λaqa ap1 ap2=>?_);have⟨ao8,ao9,apa,apl,r8,_⟩:=pl4 ap1 ao8 ao9 apa apl r8;refine go ?_;refine l_op (k_makeFunc (vf:=[]) (vc:=[pT aom,pT aol]) rfl (cons_eq aqx (cons_eq aqw rfl)) ?_);refine al inf1136 (λ_ ap3 as7=>?_);have⟨ao8,ao9,apa,apl,ap2,r8⟩:=be5 ap3.2 ao8 ao9 apa apl ap2 r8;refine SO as7 (λaqn apq arf=>?_);have⟨ao8,ao9,apa,apl,ap2,r8,_⟩:=pl5 apq ao8 ao9 apa apl ap2 r8;refine go ?_;have avl:=bt apa;have avm:=bt apl;have avn:=bt ap2;have avo:=bt ao8;have avp:=bt ao9;have avq:=bt arf
 refine c_rangeM (M:=m+1) (enc:=λk=>[vN (T k)]) (bs:=[sc,aol,aom]) (Kq:=λW=>Ext w W) (gf:=181) (lb:=[pT b1,pT b2]) (ps:=[16]) rfl en1113 (terms_iter (T:=T) (m:=m) r8 hB1 hB2 ?hbs hen (by have:=hR.lt;omega) hn) ⟨λkx E=>xt E kx,λkx hb E=>plw kx E⟩ (λ_=>rfl) (λk W=>k<=m∧aqn.heap.size<=W.heap.size∧(Ext w W)∧(Blk W sc 101 #[S (nS ((totP T k).1)),S (nS ((totP T k).2))])∧(Blk W aol 101 #[S (nS ((lstP T k).1)),S (nS ((lstP T k).2))])∧(Blk W aom 4 #[.bool (decide (k≠0))])∧(Blk W (w.heap.size) 65 #[.int .i64 pl,S (nS sO)])∧(Blk W (aos.heap.size) 101 #[S ([]),S ([])])∧(Blk W (aqa.heap.size) 201 #[.func (.func 180) #[] #[pT aom,pT aol]])) (λc k W=>c=.exit 0∧aqn.heap.size<=W.heap.size∧(Ext w W)∧(Blk W sc 101 #[S (nS ((resP T m).1)),S (nS ((resP T m).2))])∧(Blk W (w.heap.size) 65 #[.int .i64 pl,S (nS sO)])∧(Blk W (aos.heap.size) 101 #[S ([]),S ([])])∧(Blk W (aqa.heap.size) 201 #[.func (.func 180) #[] #[pT aom,pT aol]])) (λk=>⟨λkx ⟨q1,zl,E,h0,h1,h2,h3,h4,h5⟩=>⟨q1,Nat.le_trans zl (bz kx),xt E kx,be kx h0,be kx h1,be kx h2,be kx h3,be kx h4,be kx h5⟩,λkx hb ⟨q1,zl,E,h0,h1,h2,h3,h4,h5⟩=>⟨q1,(by rw[kx.size];exact zl),plw kx E,pb kx h0,pb kx h1,pb kx h2,pb kx h3,pb kx h4,pb kx h5⟩⟩) (λc k=>⟨λkx ⟨q1,zl,E,h0,h1,h2,h3⟩=>⟨q1,Nat.le_trans zl (bz kx),xt E kx,be kx h0,be kx h1,be kx h2,be kx h3⟩,λkx hb ⟨q1,zl,E,h0,h1,h2,h3⟩=>⟨q1,(by rw[kx.size];exact zl),plw kx E,pb kx h0,pb kx h1,pb kx h2,pb kx h3⟩⟩) (λk W h=>by have:=h.1;omega) ?h0 (λe k e' W=>∃nb:Nat,e'=upd (updL e [16] [vN (T k)]) 9 (pT nb)∧aqn.heap.size<=nb∧Blk W nb 101 #[S (nS (T k).1),S (nS (T k).2)]∧(λk W=>k<=m∧aqn.heap.size<=W.heap.size∧(Ext w W)∧(Blk W sc 101 #[S (nS ((totP T k).1)),S (nS ((totP T k).2))])∧(Blk W aol 101 #[S (nS ((lstP T k).1)),S (nS ((lstP T k).2))])∧(Blk W aom 4 #[.bool (decide (k≠0))])∧(Blk W (w.heap.size) 65 #[.int .i64 pl,S (nS sO)])∧(Blk W (aos.heap.size) 101 #[S ([]),S ([])])∧(Blk W (aqa.heap.size) 201 #[.func (.func 180) #[] #[pT aom,pT aol]])) k W) ?hA ?asn ?body ?stop
 case hbs=>
  intro b hb;simp only[List.mem_cons,List.not_mem_nil,or_false]at hb;rcases hb with rfl|rfl|rfl <;>constructor <;>omega
 case h0=>
  exact⟨Nat.zero_le _,Nat.le_refl _,r8,apa,apl,ap2,ao8,ao9,arf⟩
 case hA=>
  rintro k e' W b r r' hb hl ⟨nb,he,hnb,hbn,q1,zl,E,h0,h1,h2,h3,h4,h5⟩;have kx:=put_putObj W b (.loop r');have hne:∀{c t cs},Blk W c t cs->c≠b:=λh e=>by subst e;unfold Blk at h;rw[hl]at h;cases h
  exact⟨nb,he,hnb,Put.blk kx (hne hbn) hbn,q1,(by rw[kx.size];exact zl),plw kx E,Put.blk kx (hne h0) h0,Put.blk kx (hne h1) h1,Put.blk kx (hne h2) h2,Put.blk kx (hne h3) h3,Put.blk kx (hne h4) h4,Put.blk kx (hne h5) h5⟩
 case asn=>
  rintro l k W K ⟨q1,zl,E,h0,h1,h2,h3,h4,h5⟩ hK;have EW:=Ext.refl W;refine go ?_;refine al inf1056 (λ_ apm as9=>?_);have h0:=be apm.2 h0;have h1:=be apm.2 h1;have h2:=be apm.2 h2;have h3:=be apm.2 h3;have h4:=be apm.2 h4;have h5:=be apm.2 h5;have E:=xt E apm.2;have EW:=xt EW apm.2;refine SA as9 (λ_ apb ata=>?_);have h0:=pb apb h0;have h1:=pb apb h1;have h2:=pb apb h2;have h3:=pb apb h3;have h4:=pb apb h4;have h5:=pb apb h5;have E:=plw apb E;have avt:=psz apb;have EW:=plw apb EW;refine go ?_;exact hK _ _ EW ⟨_,rfl,om,ata,q1,(by have:=bz EW;omega),E,h0,h1,h2,h3,h4,h5⟩
 case body=>
  rintro l k e' W ⟨nb,rfl,hnb,hbn,q1,zl,E,h0,h1,h2,h3,h4,h5⟩;have Kp:=Keeps.refl [sc,aol,aom] W;have zW:=bz E;have hkm:=q1;have znb:=bt hbn;have hc0:=Blk.isCells h0;have hc1:=Blk.isCells h1;have hc2:=Blk.isCells h2;have fT1:Bk 99 (plP (totP T k) (T k)):=hR.tot (k:=k+1) om;refine go ?_;refine clb en1078 (hc:=spPlus_ok (fT1.fi dc).1 (fT1.fi dc).2 (ht.ext E)) (hk:=?_);rintro _ _ apc rfl;have h0:=be apc.2 h0;have h1:=be apc.2 h1;have h2:=be apc.2 h2;have h3:=be apc.2 h3;have h4:=be apc.2 h4;have h5:=be apc.2 h5;have hbn:=be apc.2 hbn;have E:=xt E apc.2;have Kp:=Keeps.ext Kp apc.2;refine SA h0 (λ_ apd aon=>?_);have h1:=pb apd h1;have h2:=pb apd h2;have h3:=pb apd h3;have h4:=pb apd h4;have h5:=pb apd h5;have hbn:=pb apd hbn;have E:=plw apd E;have Kp:=Keeps.put Kp apd (by first|exact Or.inr om|exact Or.inl (by simp));have avx:=psz apd;refine go ?_;refine l_op (clV (vs:=[.agg #[S (nS ((T k).1)),S (nS ((T k).2))]]) (lb:=[pT aom,pT aol]) en1112 rfl rfl (cB (last_ok h2 h1 ((hR.bd k hkm).mono dc) (bk_last hR hkm) (ht.ext E)) (hR.last hkm)) ?_);rintro _ _ ape rfl;have aon:=be ape.2 aon;have h1:=be ape.2 h1;have h2:=be ape.2 h2
  have h3:=be ape.2 h3;have h4:=be ape.2 h4;have h5:=be ape.2 h5;have hbn:=be ape.2 hbn;have E:=xt E ape.2;have Kp:=Keeps.ext Kp ape.2;refine go ?_;by_cases aqy:k=m;refine go ?_;refine c_an 5 ?_;refine sf ?_;refine sf_ae (V:=S (nS (((T k).2)+4))) (λ_ _ apn _=>?_) ?_;refine clb en1045 (hc:=nAdd_ok rfl lit4 (by have:=fT1.2;have:=(hR.bd k hkm).2;simp only[plP]at *;unfold Fi;omega) (ht.ext (xt E apn))) (hk:=?_);rintro _ _ apo rfl;have atc:=apo.2;refine go ?_;exact fs ⟨atc,rfl⟩;refine sf ?_;intro _ _ apf _;have aon:=be apf.2 aon;have h1:=be apf.2 h1;have h2:=be apf.2 h2;have h3:=be apf.2 h3;have h4:=be apf.2 h4;have h5:=be apf.2 h5;have hbn:=be apf.2 hbn;have E:=xt E apf.2;have Kp:=Keeps.ext Kp apf.2;refine clb en1045 (hc:=nAdd_ok rfl rfl (by have:=fT1.2;have:=(hR.bd k hkm).2;simp only[plP]at *;unfold Fi;omega) (ht.ext E)) (hk:=?_);rintro _ _ apg rfl;have aon:=be apg.2 aon;have h1:=be apg.2 h1;have h2:=be apg.2 h2;have h3:=be apg.2 h3;have h4:=be apg.2 h4;have h5:=be apg.2 h5;have hbn:=be apg.2 hbn;have E:=xt E apg.2;have Kp:=Keeps.ext Kp apg.2;refine go ?_;refine SO aon (λ_ aph atd=>?_);have h1:=pb aph h1;have h2:=pb aph h2;have h3:=pb aph h3;have h4:=pb aph h4;have h5:=pb aph h5
  have hbn:=pb aph hbn;have E:=plw aph E;have Kp:=Keeps.put Kp aph (by first|exact Or.inr om|exact Or.inl (by simp));have awn:=psz aph;refine go ?_;exact⟨Kp.others (by intro b hb;simp only[List.mem_cons,List.not_mem_nil,or_false]at hb;rcases hb with rfl|rfl|rfl;exact hc0;exact hc1;exact hc2),rfl,(by have:=Kp.size;omega),E,(by subst aqy;exact atd),h3,h4,h5⟩;refine go ?_;refine SA h1 (λ_ api aqz=>?_);have aon:=pb api aon;have h2:=pb api h2;have h3:=pb api h3;have h4:=pb api h4;have h5:=pb api h5;have hbn:=pb api hbn;have E:=plw api E;have Kp:=Keeps.put Kp api (by first|exact Or.inr om|exact Or.inl (by simp));have awp:=psz api;refine SO h2 (λ_ apj ate=>?_);have aon:=pb apj aon;have aqz:=pb apj aqz;have h3:=pb apj h3;have h4:=pb apj h4;have h5:=pb apj h5;have hbn:=pb apj hbn;have E:=plw apj E;have Kp:=Keeps.put Kp apj (by first|exact Or.inr om|exact Or.inl (by simp));have awr:=psz apj;refine go ?_;exact⟨Kp.others (by intro b hb;simp only[List.mem_cons,List.not_mem_nil,or_false]at hb;rcases hb with rfl|rfl|rfl;exact hc0;exact hc1;exact hc2),KpC.of Kp,λ_=>E,om,(by have:=Kp.size;omega),E,aon,aqz,(by rw[decide_eq_true om];exact ate),h3,h4,h5⟩
 case stop=>
  rintro D c k W hD ⟨rfl,zl,E,h0,h1,h2,h3⟩ hK;have zW:=bz E;refine go ?_;refine SA h2 (λ_ ap4 atf=>?_);have h0:=pb ap4 h0;have h1:=pb ap4 h1;have h3:=pb ap4 h3;have hK:=Dfr.put ap4 (hK.ne h2) hK;have E:=plw ap4 E;have awt:=psz ap4;refine go ?_;refine f_outM (v:=.agg #[S (nS ((resP T m).1)),S (nS ((resP T m).2))]) hK (res1  rfl ?_) ((put_dfr _).low E om) rfl;refine res_cellA (t:=4) (cs:=[S (nS ((resP T m).1)),S (nS ((resP T m).2))]) (b:=aos.heap.size) (o:=0) U1056 rfl sz1056 ?_ ?_;exact rfl;exact Blk.cells (atf.dfr hK) (i:=0) rfl
set_option maxRecDepth 100000
theorem cP {f:FuncId}{a:Array Value}{w:World}{p q:N2}(h:CL f a w (Ret w λv _=>v=.agg #[S (nS p.1),S (nS p.2)]))(e:p=q):CL f a w (Ret w λv _=>v=.agg #[S (nS q.1),S (nS q.2)]):=e▸h
theorem cmp_gt0 {a b:Nat}(h:b<a):0<cmpI (a:Int) (b:Int):=by rw[cmpI_gt om];decide
theorem cmp_gt1 {a b:Nat}(h:¬b<a):¬0<cmpI (a:Int) (b:Int):=by have:=(cmpI_nonpos (x:=(a:Int)) (y:=(b:Int))).2 om;omega
theorem exp1_ok {sO pl n b1 b2:Nat}{t x:N2}{w:World}(hS:Sc sO)(hb1:Blk w b1 65 #[.int .i64 pl,S (nS sO)])(hb2:Blk w b2 101 #[S (nS x.1),S (nS x.2)])(htb:Bk 95 t)(hx:Bk 95 x)(h0:0<n)(hn:n<100000)(ht:Tb w):
    CL 183 #[.agg #[S (nS t.1),S (nS t.2)],.int .i64 n,pT b1,pT b2] w (Ret w λv w'=>v=.agg #[S (nS ((expN sO x n t).1)),S (nS ((expN sO x n t).2))]):=by
 have zb1:=bt hb1;have zb2:=bt hb2;refine f_in Tryz.func183 rfl ?_;refine go ?_;refine bx (λaoy aox r8=>?_);have⟨hb1,hb2⟩:=bf2 aox.2 hb1 hb2;have aol:=aox.2;refine al inf1056 (λ_ aor sc=>?_);have⟨hb1,hb2,r8,aol⟩:=be3 aor.2 hb1 hb2 r8 aol;refine go ?_;refine c_an 6 ?_;refine sf ?_;refine sf_ae (V:=.agg #[S (nS ((tmP sO t x).1)),S (nS ((tmP sO t x).2))]) (λ_ _ aom _=>?_) ?_;refine cl en1074 (spTimes_ok hS htb hx (ht.ext (xt aol aom))) ?_;rintro _ _ aon rfl;have aoz:=aon.2;refine go ?_;exact fs ⟨aoz,rfl⟩;refine sf ?_;intro _ _ aoo _;have⟨hb1,hb2,r8,sc,aol⟩:=be4 aoo.2 hb1 hb2 r8 sc aol;refine clb en1070 (hc:=spBy_ok (tmP_bd hS.pos htb hx) dc om om (ht.ext aol)) (hk:=?_);rintro _ _ aop rfl;have⟨hb1,hb2,r8,sc,aol⟩:=be4 aop.2 hb1 hb2 r8 sc aol;refine SA sc (λ_ aoq ao0=>?_);have⟨hb1,hb2,r8,aol,_⟩:=pl3 aoq hb1 hb2 r8 aol;refine go ?_;refine f_out (v:=.agg #[S (nS ((byP (tmP sO t x) 1 n).1)),S (nS ((byP (tmP sO t x) 1 n).2))]) (res1  rfl ?_) aol rfl;refine res_cellA (t:=6) (cs:=[S (nS ((byP (tmP sO t x) 1 n).1)),S (nS ((byP (tmP sO t x) 1 n).2))]) (b:=aoy.heap.size) (o:=0) U1056 rfl sz1056 ?_ ?_;exact rfl;exact Blk.cells ao0 (i:=0) rfl
theorem hn1_ok {sO pl n b1 b2:Nat}{t x:N2}{w:World}(hS:Sc sO)(hb1:Blk w b1 65 #[.int .i64 pl,S (nS sO)])(hb2:Blk w b2 101 #[S (nS x.1),S (nS x.2)])(htb:Bk 95 t)(hx:Bk 95 x)(h0:0<n)(hn:n<100000)(ht:Tb w):
    CL 144 #[.agg #[S (nS t.1),S (nS t.2)],.int .i64 n,pT b1,pT b2] w (Ret w λv w'=>v=.agg #[S (nS ((hnN sO x n t).1)),S (nS ((hnN sO x n t).2))]):=by
 have zb1:=bt hb1;have zb2:=bt hb2;refine f_in Tryz.func144 rfl ?_;refine go ?_;refine bx (λao0 aoz r8=>?_);have⟨hb1,hb2⟩:=bf2 aoz.2 hb1 hb2;have aol:=aoz.2;refine al inf1056 (λ_ aor sc=>?_);have⟨hb1,hb2,r8,aol⟩:=be3 aor.2 hb1 hb2 r8 aol;refine go ?_;refine c_an 8 ?_;refine sf ?_;refine sf_ae (V:=.agg #[S (nS ((tmP sO t x).1)),S (nS ((tmP sO t x).2))]) (λ_ _ aom _=>?_) ?_;refine cl en1074 (spTimes_ok hS htb hx (ht.ext (xt aol aom))) ?_;rintro _ _ aon rfl;have ao1:=aon.2;refine go ?_;exact fs ⟨ao1,rfl⟩;refine sf ?_;refine sf_ap (λ_ _ _ _=>by refine l_op (k_mul (a:=2) (b:=(n:Int)) (c:=((2*n:Nat):Int)) rfl rfl (by unfold In64;omega) om ?_);refine go ?_;exact finp) ?_;refine sf_ap (λ_ _ _ _=>by refine l_op (k_add (a:=((2*n:Nat):Int)) (b:=1) (c:=((2*n+1:Nat):Int)) rfl rfl (by unfold In64;omega) om ?_);refine go ?_;exact finp) ?_;refine sf ?_;intro _ _ aoo _;have⟨hb1,hb2,r8,sc,aol⟩:=be4 aoo.2 hb1 hb2 r8 sc aol;refine clb en1070 (hc:=spBy_ok (tmP_bd hS.pos htb hx) dc om om (ht.ext aol)) (hk:=?_);rintro _ _ aop rfl;have⟨hb1,hb2,r8,sc,aol⟩:=be4 aop.2 hb1 hb2 r8 sc aol;refine SA sc (λ_ aoq ao2=>?_);have⟨hb1,hb2,r8,aol,_⟩:=pl3 aoq hb1 hb2 r8 aol;refine go ?_;refine f_out (v:=.agg #[S (nS ((byP (tmP sO t x) 1 (2*n+1)).1)),S (nS ((byP (tmP sO t x) 1 (2*n+1)).2))]) (res1  rfl ?_) aol rfl
 refine res_cellA (t:=6) (cs:=[S (nS ((byP (tmP sO t x) 1 (2*n+1)).1)),S (nS ((byP (tmP sO t x) 1 (2*n+1)).2))]) (b:=ao0.heap.size) (o:=0) U1056 rfl sz1056 ?_ ?_;exact rfl;exact Blk.cells ao2 (i:=0) rfl
theorem half_le {S:Nat}:∀{f h:Nat} {x:N2} {p:N2×Nat},halfF S f x h=some p->p.2<=h+f
  |0,_,_,_,e=>by simp[halfF]at e
  | f+1,h,x,p,e=>by
    unfold halfF at e
    split at e
    · have:=half_le e;omega
    · cases e;simp
set_option maxRecDepth 100000 in
theorem exp_ok {sO pl:Nat}{x r:N2}{w:World}(hS:Sc sO)(he:expP sO x=some r)(ht:Tb w):
    CL 147 #[.agg #[.int .i64 pl,S (nS sO)],.agg #[S (nS x.1),S (nS x.2)]] w (Ret w λv w'=>v=.agg #[S (nS r.1),S (nS r.2)]):=by
 obtain⟨hx,p,s,hp,hs,hq⟩:=exp_inv he;have hp2:=half_le hp;refine f_in Tryz.func147 rfl ?_;refine go ?_;refine bx (λaom apz r8=>?_);have aoq:=apz.2;refine bx (λaox apw ape=>?_);have⟨r8,aoq⟩:=be1 apw.2 r8 aoq;refine al inf1056 (λap0 apf sc=>?_);have⟨r8,ape,aoq⟩:=be2 apf.2 r8 ape aoq;refine go ?_;refine c_lp [(5,5),(7,18)] (λkk e W=>∃f:Nat,∃y:N2,∃h:Nat,(f=kk)∧(e 5=.int .i64 h)∧(halfF sO f y h=some p)∧(Bk 95 y)∧(h+f<=200)∧(ap0.heap.size<=W.heap.size)∧(Ext w W)∧(Blk W (w.heap.size) 65 #[.int .i64 pl,S (nS sO)])∧(Blk W (aox.heap.size) 101 #[S ([]),S ([])])∧(Blk W (aom.heap.size) 101 #[S (nS y.1),S (nS y.2)])) ((200)) ⟨200,x,0,rfl,rfl,hp,hx,om,(Nat.le_refl _),aoq,r8,sc,ape⟩ ?_;rintro _ _ _ ⟨f,y,h,rfl,apx,hh,hy,hb,aqm,aol,r8,sc,hbx⟩;have aqn:=bz aol;by_cases hl:sO<y.2*2;obtain⟨g,rfl,hh2⟩:=half_t hh hl;refine go ?_;refine c_an 5 ?_;refine sf ?_;refine sf_ae (V:=S (nS (y.2*2))) (λ_ _ aoy _=>?_) ?_;refine clb en1043 (hc:=nMul_ok rfl lit2 (hy.fi dc).2 (fi_pow (k:=1) dc dc) (by have:=hy.2;unfold Fi;omega) (ht.ext (xt aol aoy))) (hk:=?_);rintro _ _ aoz rfl;have ap1:=aoz.2;refine go ?_;exact fs ⟨ap1,rfl⟩;refine sf ?_;intro _ _ ao0 _;have⟨r8,sc,hbx,aol⟩:=be3 ao0.2 r8 sc hbx aol;refine clb en84 (hc:=cmpN rfl rfl (by have:=hy.2;unfold Fi;omega) hS.fi) (hk:=?_);rintro _ _ ao1 rfl;have⟨r8,sc,hbx,aol⟩:=be3 ao1.2 r8 sc hbx aol
 have zq1q:=cmp_gt0 hl;refine go ?_;refine clb en1070 (hc:=spBy_ok (hy.mono dc) dc dc dc (ht.ext aol)) (hk:=?_);rintro _ _ ao2 rfl;have⟨r8,sc,hbx,aol⟩:=be3 ao2.2 r8 sc hbx aol;refine SA hbx (λ_ ao3 ap2=>?_);have⟨r8,sc,aol,_⟩:=pl2 ao3 r8 sc aol;refine go ?_;refine l_op (k_add (a:=(h:Int)) (b:=1) (c:=((h+1:Nat):Int)) rfl rfl (by unfold In64;omega) om ?_);refine go ?_;exact lend ⟨g,byP y 1 2,h+1,rfl,rfl,hh2,(half_bd hy),om,om,aol,r8,sc,ap2⟩;have hpe:=half_f hh hl;subst hpe;have hm:=sumP_inv hs;obtain⟨m,hR,hr⟩:=hm;refine go ?_;refine c_an 5 ?_;refine sf ?_;refine sf_ae (V:=S (nS (y.2*2))) (λ_ _ ao4 _=>?_) ?_;refine clb en1043 (hc:=nMul_ok rfl lit2 (hy.fi dc).2 (fi_pow (k:=1) dc dc) (by have:=hy.2;unfold Fi;omega) (ht.ext (xt aol ao4))) (hk:=?_);rintro _ _ ao5 rfl;have ap3:=ao5.2;refine go ?_;exact fs ⟨ap3,rfl⟩;refine sf ?_;intro _ _ ao6 _;have⟨r8,sc,hbx,aol⟩:=be3 ao6.2 r8 sc hbx aol;refine clb en84 (hc:=cmpN rfl rfl (by have:=hy.2;unfold Fi;omega) hS.fi) (hk:=?_);rintro _ ap4 ao7 rfl;have⟨r8,sc,hbx,aol⟩:=be3 ao7.2 r8 sc hbx aol;have zq2q:=cmp_gt1 hl;refine go ?_;refine c_an 7 ?_;refine sf ?_;refine sf_ae (V:=.agg #[S (nS ((1*sO,1*sO).1)),S (nS ((1*sO,1*sO).2))]) (λ_ _ ao8 _=>?_) ?_;refine clb en1030 (hc:=spWhole_ok (n:=1) hS dc (by rw[Nat.one_mul];exact hS.fi) (ht.ext (xt aol ao8))) (hk:=?_);rintro _ _ ao9 rfl;have ap5:=ao9.2
 refine go ?_;exact fs ⟨ap5,rfl⟩;refine sf_ap (λ_ _ _ _=>by refine l_op (k_makeFunc (vf:=[]) (vc:=[pT w.heap.size,pT aom.heap.size]) rfl rfl ?_);refine go ?_;exact finp) ?_;refine sf_ah (λv wz=>SeqV (1*sO,1*sO) (.func (.func 183) #[] #[pT w.heap.size,pT aom.heap.size]) wz v) (hs:=λ_ _ _ k h=>h.ext k) (λ_ _ _ _=>?_) ?_;refine cl en1072 terms_ok ?_;rintro _ _ apa hsq;have ap6:=apa.2;refine go ?_;exact fs ⟨ap6,hsq⟩;refine sf_ae (V:=.agg #[S (nS s.1),S (nS s.2)]) (λ_ _ aor ap7=>?_) ?_;obtain⟨_,_,aqa,apt,apu⟩:=(ap7 4 23 rfl rfl);have⟨r8,hbx⟩:=bf2 aor r8 hbx;refine clb en1071 (hc:=cP (sum_ok hR hS apt apu en1073 (λk hk W e=>exp1_ok hS (r8.ext e) (hbx.ext e) (hR.bd k om) hy om (by have:=hR.lt;omega) ((ht.ext (xt aol aor)).ext e)) (ht.ext (xt aol aor))) hr) (hk:=?_) (hv:=cons_eq rfl (cons_eq aqa rfl));rintro _ _ aoo rfl;have aqb:=aoo.2;refine go ?_;exact fs ⟨aqb,rfl⟩;refine sf_ah (λv wz=>∃b:Nat,v=pT b∧ap4.heap.size<=b∧Blk wz b 101 #[S ([]),S ([])]) (hs:=λ_ _ _ k ⟨b,e,l,h⟩=>⟨b,e,l,h.ext k⟩) (λ_ _ apb _=>?_) ?_;refine al inf1056 (λ_ apc aqc=>?_);have aqd:=apc.2;refine go ?_;exact fs ⟨aqd,⟨_,rfl,(by have:=bz apb;omega),aqc⟩⟩;refine sf ?_;intro _ _ apd aqe;have⟨r8,sc,hbx,aol⟩:=be3 apd.2 r8 sc hbx aol;obtain⟨aop,_,_,apy⟩:=(aqe 6 6 rfl rfl);have asw:=bt apy;refine SA apy (λaqf aot aqg=>?_)
 have⟨r8,sc,hbx,aol,_⟩:=pl3 aot r8 sc hbx aol;refine go ?_;refine c_lp [(26,32)] (λkk e W=>∃i:Nat,∃a:N2,(h-i=kk)∧(e 26=.int .i64 i)∧(i<=h)∧(sqF sO (h-i) a=some r)∧(aqf.heap.size<=W.heap.size)∧(Ext w W)∧(Blk W (w.heap.size) 65 #[.int .i64 pl,S (nS sO)])∧(Blk W (aox.heap.size) 101 #[S ([]),S ([])])∧(Blk W (aom.heap.size) 101 #[S (nS y.1),S (nS y.2)])∧(Blk W aop 101 #[S (nS a.1),S (nS a.2)])) (h-0) ⟨0,s,rfl,rfl,(Nat.zero_le _),hq,(Nat.le_refl _),aol,r8,sc,hbx,aqg⟩ ?_;rintro _ _ _ ⟨i,a,rfl,apv,hi,hq2,as1,aon,r8,sc,hbx,hbo⟩;have as2:=bz aon;by_cases hl2:i<h;obtain⟨ha,hq3⟩:=sq_t hq2 hl2;refine go ?_;refine cl en1074 (spTimes_ok hS ha ha (ht.ext aon)) ?_;rintro _ _ aou rfl;have⟨r8,sc,hbx,hbo,aon⟩:=be4 aou.2 r8 sc hbx hbo aon;refine SA hbo (λ_ aov aqh=>?_);have⟨r8,sc,hbx,aon,_⟩:=pl3 aov r8 sc hbx aon;refine go ?_;refine l_op (k_add (a:=(i:Int)) (b:=1) (c:=((i+1:Nat):Int)) apv rfl (by unfold In64;omega) om ?_);refine go ?_;exact lend ⟨i+1,tmP sO a a,rfl,rfl,om,hq3,om,aon,r8,sc,hbx,aqh⟩;obtain⟨rfl,_⟩:=sq_f hq2 hl2;refine go ?_;refine SA sc (λ_ aow aqi=>?_);have⟨r8,hbx,hbo,aon,_⟩:=pl3 aow r8 hbx hbo aon;refine go ?_;refine f_out (v:=.agg #[S (nS a.1),S (nS a.2)]) (res1  rfl ?_) aon rfl;refine res_cellA (t:=4) (cs:=[S (nS a.1),S (nS a.2)]) (b:=aox.heap.size) (o:=0) U1056 rfl sz1056 ?_ ?_;exact rfl
 exact Blk.cells aqi (i:=0) rfl
def limbs:Nat->Nat->Nat
  |0,_=>0
  |f+1,n=>if n=0 then 0 else limbs f (n/10000)+1
theorem limbs_eq:∀{f n:Nat},n<10000^f->(toB 10000 n).length=limbs f n
  |0,n,h=>by rw[show n=0 by simpa using h,toB_zero];rfl
  | f +1,n,h=>by
    unfold limbs
    split
    · rename_i h0;rw[h0,toB_zero];rfl
    · rename_i h0
      rw[toB_pos 10000 n om om,List.length_cons,limbs_eq (f:=f)]
      rw[Nat.pow_succ]at h
      exact Nat.div_lt_of_lt_mul (by rw[Nat.mul_comm];exact h)
def rtF:Nat->Nat->Nat->Option Nat
  |0,_,_=>none
  |f+1,n,t=>if t<=(t+n/t)/2 then some t else rtF f n ((t+n/t)/2)
def rtN (n:Nat):Option Nat:=rtF 1000 n (10000^((limbs 60 n+1)/2))
theorem rt_t {f n t r:Nat}(h:rtF f n t=some r)(hl:t<=(t+n/t)/2):r=t:=by
  cases f with
  |zero=>cases h
  |succ g=>unfold rtF at h;rw[if_pos hl]at h;cases h;rfl
theorem rt_f {f n t r:Nat}(h:rtF f n t=some r)(hl:¬t<=(t+n/t)/2):∃g,f=g+1∧rtF g n ((t+n/t)/2)=some r:=by
  cases f with
  |zero=>cases h
  |succ g=>unfold rtF at h;rw[if_neg hl]at h;exact⟨g,rfl,h⟩
theorem toB_pow (k:Nat):toB 10000 (10000^k)=List.replicate k 0++[1]:=by
  induction k with
  |zero=>decide
  | succ k ih=>
    rw[toB_pos 10000 _ om (Nat.pow_pos om),Nat.pow_succ,Nat.mul_mod_left,Nat.mul_div_cancel _ om,ih,List.replicate_succ,List.cons_append]
theorem num_pow {w:World}{lo k c:Nat}{A:Option Addr}(h:Rw w lo A ((madeCells (Value.int .i64 0).cells (k*1)).toList++[Value.int .i64 1]))(hc:k+1<=c):Num w lo A (k+1) c (10000^k):=by
  refine⟨?_,by rw[toB_pow];simp,hc⟩
  have e:(madeCells (Value.int .i64 0).cells (k*1)).toList++[Value.int .i64 1]=ints (toB 10000 (10000^k)):=by
    show(madeCells #[Value.int .i64 0] (k*1)).toList++_=_
    rw[made_ints,toB_pow];simp[ints]
  rw[<-e];exact h
theorem num_two {w:World}{lo:Nat}{A:Option Addr}(h:Rw w lo A [Value.int .i64 2]):Num w lo A 1 1 2:=by
  have e:toB 10000 2=[2]:=by decide
  exact⟨by rw[e];exact h,by rw[e];rfl,Nat.le_refl _⟩
theorem body_nS (n:Nat):body (nS n)=showN n:=by unfold nS;rw[body_showI];simp
theorem neg_nS (n:Nat):neg (nS n)=false:=by unfold nS;rw[neg_showI];exact decide_eq_false om
theorem bothN_ok {n:Nat}{w:World}(hn:Fi n):CL 61 #[S (nS n),S [48]] w (Ret w λv w'=>∃A1 n1 c1 A2 n2 c2,v=.tuple #[.agg #[.bool false,.slice A1 n1 c1],.agg #[.bool false,.slice A2 n2 c2],.bool true]∧Num w' w.heap.size A1 n1 c1 n∧Num w' w.heap.size A2 n2 c2 0):=by
  have h:=both_ok (nS n) [48] w hn.z.int isInt_zero
  rw[body_nS,neg_nS,valN_showN,show neg [48]=false from rfl,show valN (body [48])=0 from valN_zero]at h
  exact h
theorem fi50 {n:Nat}(h:Fi n):n<10000^50:=Nat.lt_of_lt_of_le h dc
theorem rt_sum {n t:Nat}(hn:n<10000^50)(ht:t<=10000^26):t+n/t<10000^51:=by
  have h1:n/t<=n:=Nat.div_le_self _ _
  have h2:(10000:Nat)^50+10000^26<10000^51:=by decide
  omega
theorem out_fit {t:Nat}(ht:t≤10000 ^ 26) : resI (outI (sgn false t))=.tuple #[S (nS t),.int .i64 0]:=by
  have h : fits (sgn false t) = true := decide_eq_true (by have h2:(10000:Nat)^26<10^200:=by decide
                                                           simp[sgn];omega)
  unfold outI;rw[if_pos h];rfl
theorem cmpI_swap0 {x y:Int}:(0<=cmpI x y)↔y<=x:=by
  unfold cmpI;split
  · constructor <;>intro h <;>omega
  · split
    · constructor <;>intro _ <;>omega
    · constructor <;>intro _ <;>omega
theorem cEqR {f:FuncId}{a:Array Value}{w:World}{X Y:Value}(h:CL f a w (Ret w λv _=>v=X))(e:X=Y):CL f a w (Ret w λv _=>v=Y):=e▸h
theorem rt_ge {x y:Nat}(h:(0:Int)<=cmpI (x:Int) (y:Int)):y<=x:=by
  rw[cmpI_swap0]at h
  omega
theorem rt_lt {x y:Nat}(h:¬(0:Int)<=cmpI (x:Int) (y:Int)):¬y<=x:=by
  rw[cmpI_swap0]at h
  omega
theorem rt_pos {n t:Nat}(hn:0<n)(ht:0<t):0<(t+n/t)/2:=by
  by_cases h:t=1
  · subst h;rw[Nat.div_one];omega
  · have h2:2<=t:=by omega
    exact Nat.div_pos (Nat.le_trans h2 (Nat.le_add_right _ _)) om
set_option maxRecDepth 100000 in
theorem root_ok {n r:Nat}{w:World}(fn:Fi n)(hn0:0<n)(hr:rtN n=some r)(ht:Tb w):
    CL 184 #[S (nS n)] w (Ret w λv w'=>v=.tuple #[S (nS r),.int .i64 0]):=by
 have hl60:(toB 10000 n).length=limbs 60 n:=limbs_eq (Nat.lt_of_lt_of_le (fi50 fn) (Nat.pow_le_pow_right dc dc));refine f_in Tryz.func184 rfl ?_;refine go ?_;refine cl en104 (bothN_ok fn) ?_;rintro _ aom apb ⟨A1,n1,c1,A2,n2,c2,rfl,hN,hz⟩;have aol:=apb.2;have uhN:=hN.hi;have l1:=num_len hN (fi50 fn);have p1:0<n1:=by rw[<-hN.len,List.length_pos_iff];exact λe=>by have:=ofB_toB 10000 om n;rw[e]at this;simp[ofB]at this;omega
 refine go ?_;refine al inf125 (λao1 ao6 ao2=>?_);have hN:=Num.ext ao6.2 hN;have aol:=xt aol ao6.2;refine al inf125 (λ_ ao3 ao4=>?_);have hN:=Num.ext ao3.2 hN;have⟨ao2,aol⟩:=be1 ao3.2 ao2 aol;refine SA ao2 (λ_ aox kx=>?_);have hN:=Num.putU aox (λad e=>by have:=uhN ad e;omega) hN;have⟨ao4,aol,_⟩:=pl1 aox ao4 aol;refine SA ao4 (λao5 aoy r8=>?_);have hN:=Num.putU aoy (λad e=>by have:=uhN ad e;omega) hN;have⟨kx,aol,_⟩:=pl1 aoy kx aol;refine go ?_;refine l_op (k_add (a:=(n1:Int)) (b:=1) (c:=((n1+1:Nat):Int)) rfl rfl (by unfold In64;omega) om ?_);refine l_op (k_quo (a:=((n1+1:Nat):Int)) (b:=2) (c:=((((n1+1)/2):Nat):Int)) rfl rfl om om (by unfold In64;omega) om ?_);refine l_op (k_make (m:=((n1+1)/2)) U123 inf3 rfl rfl om (by simp only[maxLen];omega) (λ_ aot _ aou=>?_));have ao7:(.slice (some ⟨ao5.heap.size,0,none⟩) (((n1+1)/2)) (((n1+1)/2)):Value).ownBlock≠some (aom.heap.size):=λe=>by(have:=bt kx;simp only[Value.ownBlock,Option.map_some,Option.some.injEq]at e;omega)
 have ao8:(.slice (some ⟨ao5.heap.size,0,none⟩) (((n1+1)/2)) (((n1+1)/2)):Value).ownBlock≠some (ao1.heap.size):=λe=>by(have:=bt r8;simp only[Value.ownBlock,Option.map_some,Option.some.injEq]at e;omega)
 have hN:=Num.ext aot hN;have⟨kx,r8,aol⟩:=be2 aot kx r8 aol;have apo:=bz aot;refine BS (λ_ aor _ apc=>?_);have aps:=own_ne_new aou;have hN:=Num.ext aor hN;have⟨kx,r8⟩:=bf2 aor kx r8;have aou:=own_ext aor aou;have aol:=xt aol aor;have apt:=bz aor;refine AP aou (Rw.of_own apc) (λapd ape ao9 aov apa=>?_);have apu:=own_ne_app apa ao7 (bt kx);have apv:=own_ne_app apa ao8 (bt r8);have hN:=Num.gr aov (λad e=>by have:=uhN ad e;simp[Value.ownBlock];omega) hN;have kx:=Blk.gr aov (λe=>ao7 e.symm) kx;have r8:=Blk.gr aov (λe=>ao8 e.symm) r8;have aol:=low_app aou om om aol aov;have apw:=aov.size;refine l_op (k_assign (v:=apd) rfl ?_);refine go ?_;obtain⟨At,ct,rfl,hct,-,-,-⟩:=own_form ao9;have hT:=num_pow (Rw.of_own ao9) hct;have hr0:rtF 1000 n (10000^((n1+1)/2))=some r:=by rw[<-hN.len,hl60];exact hr
 refine go ?_;refine c_lp [(2,3),(7,11),(32,60)] (λkk e W=>∃f:Nat,∃Ax:Option Addr,∃nx:Nat,∃cx:Nat,∃t:Nat,(f=kk)∧(e 7=.slice Ax nx cx)∧(rtF f n t=some r)∧(t<=10000^26)∧(0<t)∧(ape.heap.size<=W.heap.size)∧(Ext w W)∧(Num W w.heap.size A1 n1 c1 n)∧(Blk W (aom.heap.size) 92 #[.bool false,.slice A1 n1 c1])∧(Blk W (ao1.heap.size) 92 #[.bool false,.slice A2 n2 c2])∧(Num W w.heap.size Ax nx cx t)) ((1000)) ⟨1000,At,((n1+1)/2)+1,ct,10000^((n1+1)/2),rfl,rfl,hr0,(Nat.pow_le_pow_right dc om),(Nat.pow_pos dc),(Nat.le_refl _),aol,hN,kx,r8,(hT.mono om)⟩ ?_;rintro _ _ _ ⟨f,Ax,nx,cx,t,rfl,aoz,hf,htb,ht0,ap0,sc,hN,kx,r8,hT⟩;have ap1:=bz sc;have lt:=num_len (k:=27) hT (Nat.lt_of_le_of_lt htb dc);have lN:=num_len hN (fi50 fn);refine go ?_;refine clb en105 (hc:=over_ok hN om hT om ht0) (hk:=?_);rintro _ _ aow ⟨Aq,nq,cq,Ar,nr,cr,rfl,hQ,hRr⟩;have hN:=Num.ext aow.2 hN;have⟨kx,r8⟩:=bf2 aow.2 kx r8;have hT:=Num.ext aow.2 hT;have sc:=xt sc aow.2;have lq:=num_len hQ (Nat.lt_of_le_of_lt (Nat.div_le_self _ _) (fi50 fn));refine go ?_;refine clb en106 (hc:=plus_ok hT om hQ om) (hk:=?_);rintro _ _ aos ⟨As,ns,cs,rfl,hS⟩;have hN:=Num.ext aos.2 hN;have⟨kx,r8⟩:=bf2 aos.2 kx r8;have hT:=Num.ext aos.2 hT;have sc:=xt sc aos.2;have ls:=num_len hS (rt_sum (fi50 fn) htb);refine BS (λ_ aon _ apg=>?_);have hN:=Num.ext aon hN
 have⟨kx,r8⟩:=bf2 aon kx r8;have hT:=Num.ext aon hT;have hS:=Num.ext aon hS;have sc:=xt sc aon;have ap7:=bz aon;have h2n:=num_two (Rw.of_own apg);refine clb en105 (hc:=over_ok hS om h2n om dc) (hk:=?_);rintro _ _ aoq ⟨Ay,ny,cy,Ar2,nr2,cr2,rfl,hY,hR2⟩;have hN:=Num.ext aoq.2 hN;have⟨kx,r8⟩:=bf2 aoq.2 kx r8;have hT:=Num.ext aoq.2 hT;have sc:=xt sc aoq.2;have ly:=num_len hY (Nat.lt_of_le_of_lt (Nat.div_le_self _ _) (rt_sum (fi50 fn) htb));refine go ?_;refine clb en110 (hc:=compare_ok hY om hT) (hk:=?_);rintro _ _ aoo rfl;have hN:=Num.ext aoo.2 hN;have⟨kx,r8⟩:=bf2 aoo.2 kx r8;have hT:=Num.ext aoo.2 hT;have hY:=Num.ext aoo.2 hY;have sc:=xt sc aoo.2;refine go ?_;by_cases ao0:0<=(cmpI ((((t+n/t)/2:Nat)):Int) (((t:Nat)):Int));have hge:=rt_ge ao0;have hrt:=rt_t hf hge;refine go ?_;refine l_op (k_build (vs:=[(1,.slice Ax nx cx)]) (cells:=#[.bool false,.slice Ax nx cx]) (pl:=[(0,1),(1,1)]) U125 inf125 (by kernel_rfl) rfl (by kernel_rfl) ?_);refine clb en109 (hc:=cEqR (stext_ok (ng:=false) hT om (ht.ext sc)) (out_fit htb)) (hk:=?_);rintro _ _ aop rfl;have sc:=xt sc aop.2;refine go ?_;exact f_ret2 (t:=2) (u:=3) (v1:=S (nS t)) (v2:=.int .i64 0) rfl sc (by rw[hrt]) rfl rfl;have hge:=rt_lt ao0;obtain⟨g,rfl,h2⟩:=rt_f hf hge;refine go ?_
 exact lend ⟨g,Ay,ny,cy,(t+n/t)/2,rfl,rfl,h2,(by have:=Nat.not_le.1 hge;omega),(rt_pos hn0 ht0),om,sc,hN,kx,r8,(hY.mono om)⟩
end Go.Proofs.YtinldhphnpflaaaGreatDoor
namespace Go.Proofs.YtinldhphnpflaaaGreatDoor
open Go Go.Eng Go.RowKit
def rootP (S:Nat)(a:N2):Option N2:=if bdB a=true∧0<a.1*S∧0<a.2*S then(rtN (a.1*S)).bind λx=>(rtN (a.2*S)).bind λy=>if bdB (x,y)=true then some (x,y+1)else none else none
theorem root_inv {S:Nat}{a r:N2}(h:rootP S a=some r):Bk 95 a∧0<a.1*S∧0<a.2*S∧∃x y,rtN (a.1*S)=some x∧rtN (a.2*S)=some y∧Bk 95 (x,y)∧r=(x,y+1):=by
  unfold rootP at h
  split at h
  · rename_i h1
    refine⟨bdB_ok h1.1,h1.2.1,h1.2.2,?_⟩
    cases hx:rtN (a.1*S)with
    |none=>rw[hx]at h;cases h
    | some x=>
      rw[hx,Option.bind_some]at h
      cases hy:rtN (a.2*S)with
      |none=>rw[hy]at h;cases h
      | some y=>
        rw[hy,Option.bind_some]at h
        split at h
        · rename_i h2;cases h;exact⟨x,y,rfl,rfl,bdB_ok h2,rfl⟩
        · cases h
  · cases h
def piL:List UInt8:=[51,49,52,49,53,57,50,54,53,51,53,56,57,55,57,51,50,51,56,52,54,50,54,52,51,51,56,51,50,55,57,53,48,50,56,56,52,49,57,55,49,54,57,51,57,57,51,55,53,49,48,53,56,50,48,57,55,52,57,52,52,53,57,50,51,48,55,56,49,54,52,48,54,50,56,54,50,48,56,57,57]
def piN (k:Nat):Nat:=314159265358979323846264338327950288419716939937510582097494459230781640628620899/10^(80-k)
theorem pi_str {k:Nat}(h:k<81):piL.take (k+1)=nS (piN k):=by
  have:∀k:Fin 81,piL.take (k.1+1)=nS (piN k.1):=by decide +kernel
  exact this ⟨k,h⟩
theorem pi_bd {k:Nat}:piN k<10^81:=Nat.lt_of_le_of_lt (Nat.div_le_self _ _) dc
def hnP (S pl n d:Nat):Option N2:=
  if bdB (n,d)=true∧0<d∧bdB (ofP S n d)=true∧bdB (tmP S (ofP S n d) (ofP S n d))=true then
    (sumP (hnN S (tmP S (ofP S n d) (ofP S n d))) (ofP S n d)).bind λs=>
    (expP S (byP (tmP S (ofP S n d) (ofP S n d)) 1 2)).bind λe=>
    (rootP S (byP (piN pl,piN pl+1) 2 1)).bind λc=>
    if bdB s=true∧bdB c=true∧0<(tmP S e c).1∧0<(tmP S e c).2 then some (ovP S s (tmP S e c))else none
  else none
theorem hn_inv {S pl n d:Nat}{r:N2}(h:hnP S pl n d=some r):Bk 95 (n,d)∧0<d∧Bk 95 (ofP S n d)∧Bk 95 (tmP S (ofP S n d) (ofP S n d))∧∃s e c,
    sumP (hnN S (tmP S (ofP S n d) (ofP S n d))) (ofP S n d)=some s∧expP S (byP (tmP S (ofP S n d) (ofP S n d)) 1 2)=some e∧rootP S (byP (piN pl,piN pl+1) 2 1)=some c∧Bk 95 s∧Bk 95 c∧0<(tmP S e c).1∧0<(tmP S e c).2∧r=ovP S s (tmP S e c):=by
  unfold hnP at h
  split at h
  · rename_i h1
    refine⟨bdB_ok h1.1,h1.2.1,bdB_ok h1.2.2.1,bdB_ok h1.2.2.2,?_⟩
    cases hs:sumP (hnN S (tmP S (ofP S n d) (ofP S n d))) (ofP S n d)with
    |none=>rw[hs]at h;cases h
    | some s=>
      rw[hs,Option.bind_some]at h
      cases he:expP S (byP (tmP S (ofP S n d) (ofP S n d)) 1 2)with
      |none=>rw[he]at h;cases h
      | some e=>
        rw[he,Option.bind_some]at h
        cases hc:rootP S (byP (piN pl,piN pl+1) 2 1)with
        |none=>rw[hc]at h;cases h
        | some c=>
          rw[hc,Option.bind_some]at h
          split at h
          · rename_i h2;cases h;exact⟨s,e,c,rfl,rfl,rfl,bdB_ok h2.1,bdB_ok h2.2.1,h2.2.2.1,h2.2.2.2,rfl⟩
          · cases h
  · cases h
end Go.Proofs.YtinldhphnpflaaaGreatDoor
namespace Go.Proofs.YtinldhphnpflaaaGreatDoor
set_option maxRecDepth 100000
open Go Go.Eng Go.RowKit
attribute [local irreducible] wpListIn Code.wpIn Oper.wpIn Exit.then Exit.inBlock Exit.noGoto
set_option maxHeartbeats 40000000
theorem pi_len:piL.length=81:=by decide +kernel
theorem spOfL_ok {l m:List UInt8}{sO pl n d:Nat}{w:World}(hl:l=nS n)(hm:m=nS d)(hS:Sc sO)(hn:Fi n)(hd:Fi d)(h0:0<d)(hf:Fi (n*sO))(ht:Tb w):
    CL 69 #[.agg #[.int .i64 pl,S (nS sO)],.agg #[S l,S m]] w (Ret w λv _=>v=.agg #[S (nS (ofP sO n d).1),S (nS (ofP sO n d).2)]):=by
  subst hl hm
  exact spOf_ok hS hn hd h0 hf ht
theorem spRoot_ok {sO pl:Nat}{a r:N2}{w:World}(hS:Sc sO)(hr:rootP sO a=some r)(ht:Tb w):
    CL 148 #[.agg #[.int .i64 pl,S (nS sO)],.agg #[S (nS a.1),S (nS a.2)]] w (Ret w λv w'=>v=.agg #[S (nS r.1),S (nS r.2)]):=by
 obtain⟨ha,p1,p2,x,y,hr1,hr2,hb,hre⟩:=root_inv hr;have fa:=ha.fi dc;refine f_in Tryz.func148 rfl ?_;refine go ?_;refine bx (λ_ aox sc=>?_);have r8:=aox.2;refine bx (λaov aow aol=>?_);have⟨sc,r8⟩:=be1 aow.2 sc r8;refine al inf1056 (λ_ aou aom=>?_);have⟨sc,aol,r8⟩:=be2 aou.2 sc aol r8;refine go ?_;refine clb en1043 (hc:=nMul_ok rfl rfl fa.1 hS.fi (fi_mul ha.1 hS.lt dc) (ht.ext r8)) (hk:=?_);rintro _ _ aoo rfl;have⟨sc,aol,aom,r8⟩:=be3 aoo.2 sc aol aom r8;refine clb en1136 (hc:=root_ok (fi_mul ha.1 hS.lt dc) p1 hr1 (ht.ext r8)) (hk:=?_);rintro _ _ aop rfl;have⟨sc,aol,aom,r8⟩:=be3 aop.2 sc aol aom r8;refine go ?_;refine clb en1043 (hc:=nMul_ok rfl rfl fa.2 hS.fi (fi_mul ha.2 hS.lt dc) (ht.ext r8)) (hk:=?_);rintro _ _ aoq rfl;have⟨sc,aol,aom,r8⟩:=be3 aoq.2 sc aol aom r8;refine clb en1136 (hc:=root_ok (fi_mul ha.2 hS.lt dc) p2 hr2 (ht.ext r8)) (hk:=?_);rintro _ _ aor rfl;have⟨sc,aol,aom,r8⟩:=be3 aor.2 sc aol aom r8;refine go ?_;refine clb en1045 (hc:=nAdd_ok rfl lit1 (by have:=hb.2;unfold Fi;simp only at this;omega) (ht.ext r8)) (hk:=?_);rintro _ _ aos rfl;have⟨sc,aol,aom,r8⟩:=be3 aos.2 sc aol aom r8;refine go ?_;refine SA aom (λ_ aot aoy=>?_);have⟨sc,aol,r8,_⟩:=pl2 aot sc aol r8;refine go ?_;refine f_out (v:=.agg #[S (nS x),S (nS (y+1))]) (res1  rfl ?_) r8 (by rw[hre]);refine res_cellA (t:=4) (cs:=[S (nS x),S (nS (y+1))]) (b:=aov.heap.size) (o:=0) U1056 rfl sz1056 ?_ ?_
 exact rfl;exact Blk.cells aoy (i:=0) rfl
theorem pi_ok {sO pl:Nat}{w:World}(hp:pl<81)(ht:Tb w):
    CL 149 #[.agg #[.int .i64 pl,S (nS sO)]] w (Ret w λv w'=>v=.agg #[S (nS ((piN pl,piN pl+1).1)),S (nS ((piN pl,piN pl+1).2))]):=by
 refine f_in Tryz.func149 rfl ?_;refine go ?_;refine bx (λaoo aoq sc=>?_);have r8:=aoq.2;refine al inf1056 (λ_ aop aol=>?_);have⟨sc,r8⟩:=be1 aop.2 sc r8;refine go ?_;refine l_op (k_add (a:=(pl:Int)) (b:=1) (c:=((pl+1:Nat):Int)) rfl rfl (by unfold In64;omega) om ?_);refine l_op (k_sliceS (l:=piL) (i:=0) (j:=pl+1) U9 rfl (.inl ⟨rfl,rfl⟩) (.inr ⟨_,congrArg some rfl⟩) om (by rw[pi_len];omega) ?_);rw[show(piL.take (pl+1)).drop 0=piL.take (pl+1)from rfl];refine go ?_;refine clb en1045 (hc:=nAdd_ok (pi_str hp) lit1 (by have:=pi_bd (k:=pl);unfold Fi;omega) (ht.ext r8)) (hk:=?_);rintro _ _ aom rfl;have⟨sc,aol,r8⟩:=be2 aom.2 sc aol r8;refine go ?_;refine SA aol (λ_ aon aor=>?_);have⟨sc,r8,_⟩:=pl1 aon sc r8;refine go ?_;refine f_out (v:=.agg #[S (piL.take (pl+1)),S (nS (piN pl+1))]) (res1  rfl ?_) r8 (by exact congrArg (λl=>Value.agg #[S l,S (nS (piN pl+1))]) (pi_str hp));refine res_cellA (t:=2) (cs:=[S (piL.take (pl+1)),S (nS (piN pl+1))]) (b:=aoo.heap.size) (o:=0) U1056 rfl sz1056 ?_ ?_;exact rfl;exact Blk.cells aor (i:=0) rfl
theorem halfNormal_ok {sO pl n d:Nat}{r:N2}{w:World}(hS:Sc sO)(hp:pl<81)(hh:hnP sO pl n d=some r)(ht:Tb w):
    CL 102 #[.agg #[.int .i64 pl,S (nS sO)],.agg #[S (nS n),S (nS d)]] w (Ret w λv w'=>v=.agg #[S (nS r.1),S (nS r.2)]):=by
 obtain⟨hnd,hd0,hv,hqq,s,e1,c,hs,he,hc,hsb,hcb,hm1,hm2,rfl⟩:=hn_inv hh;obtain⟨m,hR,hr⟩:=sumP_inv hs;have heb:=exp_bd he;have fnd:=hnd.fi dc;refine f_in Tryz.func102 rfl ?_;refine go ?_;refine bx (λ_ ap7 r8=>?_);have aop:=ap7.2;refine bx (λap1 ap2 sc=>?_);have⟨r8,aop⟩:=be1 ap2.2 r8 aop;refine al inf1056 (λ_ apy aol=>?_);have⟨r8,sc,aop⟩:=be2 apy.2 r8 sc aop;refine go ?_;refine clb en1032 (hc:=spOfL_ok (n:=n) (d:=d) rfl rfl hS fnd.1 fnd.2 hd0 (fi_mul hnd.1 hS.lt dc) (ht.ext aop)) (hk:=?_);rintro _ _ apw rfl;have⟨r8,sc,aol,aop⟩:=be3 apw.2 r8 sc aol aop;refine al inf1056 (λ_ apx ap8=>?_);have⟨r8,sc,aol,aop⟩:=be3 apx.2 r8 sc aol aop;refine SA ap8 (λ_ apm aom=>?_);have⟨r8,sc,aol,aop,_⟩:=pl3 apm r8 sc aol aop;refine go ?_;refine cl en1074 (spTimes_ok hS hv hv (ht.ext aop)) ?_;rintro _ apn apo rfl;have⟨r8,sc,aol,aom,aop⟩:=be4 apo.2 r8 sc aol aom aop;refine al inf1056 (λ_ apq ap9=>?_);have⟨r8,sc,aol,aom,aop⟩:=be4 apq.2 r8 sc aol aom aop;refine SA ap9 (λaqa ao8 aon=>?_);have⟨r8,sc,aol,aom,aop,_⟩:=pl4 ao8 r8 sc aol aom aop;refine go ?_;refine c_an 6 ?_;refine sf ?_;refine sf_ap (λ_ _ _ _=>by refine l_op (k_makeFunc (vf:=[]) (vc:=[pT w.heap.size,pT apn.heap.size]) rfl rfl ?_);refine go ?_;exact finp) ?_;refine sf_ah (λv wz=>SeqV (ofP sO n d) (.func (.func 144) #[] #[pT w.heap.size,pT apn.heap.size]) wz v) (hs:=λ_ _ _ k h=>h.ext k) (λ_ _ _ _=>?_) ?_
 refine cl en1072 terms_ok ?_;rintro _ _ ao9 hsq;have aqb:=ao9.2;refine go ?_;exact fs ⟨aqb,hsq⟩;refine sf_ae (V:=.agg #[S (nS s.1),S (nS s.2)]) (λ_ _ aor aqc=>?_) ?_;obtain⟨_,_,aqf,apz,ap0⟩:=(aqc 3 18 rfl rfl);have⟨r8,aon⟩:=bf2 aor r8 aon;refine clb en1071 (hc:=cP (sum_ok hR hS apz ap0 en1132 (λk hk W e=>hn1_ok hS (r8.ext e) (aon.ext e) (hR.bd k om) hqq om (by have:=hR.lt;omega) ((ht.ext (xt aop aor)).ext e)) (ht.ext (xt aop aor))) hr) (hk:=?_) (hv:=cons_eq rfl (cons_eq aqf rfl));rintro _ _ aoq rfl;have aqg:=aoq.2;refine go ?_;exact fs ⟨aqg,rfl⟩;refine sf_ah (λv wz=>∃b:Nat,v=pT b∧aqa.heap.size<=b∧Blk wz b 101 #[S ([]),S ([])]) (hs:=λ_ _ _ k ⟨b,e,l,h⟩=>⟨b,e,l,h.ext k⟩) (λ_ _ apa _=>?_) ?_;refine al inf1056 (λ_ apb aqh=>?_);have aqi:=apb.2;refine go ?_;exact fs ⟨aqi,⟨_,rfl,(by have:=bz apa;omega),aqh⟩⟩;refine sf ?_;intro _ _ apc aqj;have⟨r8,sc,aol,aom,aon,aop⟩:=be5 apc.2 r8 sc aol aom aon aop;obtain⟨_,_,_,ap5⟩:=(aqj 5 7 rfl rfl);have arq:=bt ap5;refine SA ap5 (λ_ aos aoo=>?_);have⟨r8,sc,aol,aom,aon,aop,_⟩:=pl5 aos r8 sc aol aom aon aop;refine go ?_;refine c_an 15 ?_;refine sf ?_;refine sf_ae (V:=.agg #[S (nS ((byP (tmP sO (ofP sO n d) (ofP sO n d)) 1 2).1)),S (nS ((byP (tmP sO (ofP sO n d) (ofP sO n d)) 1 2).2))]) (λ_ _ aot _=>?_) ?_;refine clb en1070 (hc:=spBy_ok (hqq.mono dc) dc dc dc (ht.ext (xt aop aot))) (hk:=?_)
 rintro _ _ aou rfl;have aqk:=aou.2;refine go ?_;exact fs ⟨aqk,rfl⟩;refine sf_ae (V:=.agg #[S (nS e1.1),S (nS e1.2)]) (λ_ _ aov _=>?_) ?_;refine cl en1031 (exp_ok hS he (ht.ext (xt aop aov))) ?_;rintro _ _ aow rfl;have aql:=aow.2;refine go ?_;exact fs ⟨aql,rfl⟩;refine sf ?_;refine sf_ae (V:=.agg #[S (nS ((piN pl,piN pl+1).1)),S (nS ((piN pl,piN pl+1).2))]) (λ_ _ aox _=>?_) ?_;refine cl en1104 (pi_ok hp (ht.ext (xt aop aox))) ?_;rintro _ _ aoy rfl;have aqm:=aoy.2;refine go ?_;exact fs ⟨aqm,rfl⟩;refine sf_ae (V:=.agg #[S (nS ((byP (piN pl,piN pl+1) 2 1).1)),S (nS ((byP (piN pl,piN pl+1) 2 1).2))]) (λ_ _ aoz _=>?_) ?_;refine clb en1070 (hc:=spBy_ok (⟨lt_pow_mono pi_bd dc,by have:=pi_bd (k:=pl);simp only;omega⟩:Bk 190 (piN pl,piN pl+1)) dc dc dc (ht.ext (xt aop aoz))) (hk:=?_);rintro _ _ ao0 rfl;have aqn:=ao0.2;refine go ?_;exact fs ⟨aqn,rfl⟩;refine sf_ae (V:=.agg #[S (nS c.1),S (nS c.2)]) (λ_ _ ao1 _=>?_) ?_;refine cl en1103 (spRoot_ok hS hc (ht.ext (xt aop ao1))) ?_;rintro _ _ ao2 rfl;have aqo:=ao2.2;refine go ?_;exact fs ⟨aqo,rfl⟩;refine sf_ae (V:=.agg #[S (nS ((tmP sO e1 c).1)),S (nS ((tmP sO e1 c).2))]) (λ_ _ ao3 _=>?_) ?_;refine cl en1074 (spTimes_ok hS heb hcb (ht.ext (xt aop ao3))) ?_;rintro _ _ ao4 rfl;have aqp:=ao4.2;refine go ?_;exact fs ⟨aqp,rfl⟩;refine sf ?_;intro _ _ ao5 _
 have⟨r8,sc,aol,aom,aon⟩:=bf5 ao5.2 r8 sc aol aom aon;have⟨aoo,aop⟩:=be1 ao5.2 aoo aop;refine cl en1029 (spOver_ok hS hsb (tmP_bd hS.pos heb hcb) hm1 hm2 (ht.ext aop)) ?_;rintro _ _ ao6 rfl;have⟨r8,sc,aol,aom,aon⟩:=bf5 ao6.2 r8 sc aol aom aon;have⟨aoo,aop⟩:=be1 ao6.2 aoo aop;refine SA aol (λ_ ao7 aqq=>?_);have⟨r8,sc,aom,aon,aoo,aop,_⟩:=pl5 ao7 r8 sc aom aon aoo aop;refine go ?_;refine f_out (v:=.agg #[S (nS ((ovP sO s (tmP sO e1 c)).1)),S (nS ((ovP sO s (tmP sO e1 c)).2))]) (res1  rfl ?_) aop rfl;refine res_cellA (t:=4) (cs:=[S (nS ((ovP sO s (tmP sO e1 c)).1)),S (nS ((ovP sO s (tmP sO e1 c)).2))]) (b:=ap1.heap.size) (o:=0) U1056 rfl sz1056 ?_ ?_;exact rfl;exact Blk.cells aqq (i:=0) rfl
theorem hp_1 {l:List UInt8}(h:(1:Int)<=((l.length:Nat):Int)):Value.bool (decide (l.take 1=[45]))=.bool (neg l):=by
  cases l with
  |nil=>simp at h
  |cons a t=>congr 1;simp only[neg,List.take_succ_cons,List.take_zero,List.cons.injEq,and_true];cases hh:decide (a=45) <;>simp_all
theorem hp_0 {l:List UInt8}(h:¬(1:Int)<=((l.length:Nat):Int)):Value.bool false=.bool (neg l):=by
  cases l with
  |nil=>rfl
  |cons a t=>simp at h;omega
theorem cut_t {l:List UInt8}(h:neg l=true):l.drop 1=body l:=by
  have:=neg_cons h
  rw[this];rfl
theorem len_neg {l:List UInt8}(h:neg l=true):1<=l.length:=by rw[neg_cons h];simp
theorem neg_z {N:Int}(h:N<0):neg (showI N)=true:=by rw[neg_showI];exact decide_eq_true h
theorem pos_z {N:Int}(h:¬N<0):neg (showI N)=false:=by rw[neg_showI];exact decide_eq_false h
theorem showN_nS (n:Nat):showN n=nS n:=(body_nS n).symm.trans (by unfold nS;exact body_neg (neg_nS n))
theorem body_z (N:Int):body (showI N)=nS N.natAbs:=by rw[body_showI,showN_nS]
theorem showI_nS {N:Int}(h:¬N<0):showI N=nS N.natAbs:=by unfold nS;congr 1;omega
def nrP (S pl:Nat)(N:Int)(d:Nat):Option (Int×Int):=(hnP S pl N.natAbs d).map λh=>if N<0 then miP (ofP S 1 2) h else zP (plP (ofP S 1 2) h)
theorem nr_inv {S pl d:Nat}{N:Int}{r:Int×Int}(h:nrP S pl N d=some r):∃h,hnP S pl N.natAbs d=some h∧r=if N<0 then miP (ofP S 1 2) h else zP (plP (ofP S 1 2) h):=by
  unfold nrP at h
  cases hh:hnP S pl N.natAbs d with
  |none=>rw[hh]at h;cases h
  |some x=>rw[hh]at h;cases h;exact⟨x,rfl,rfl⟩
theorem hn_bd {S pl n d:Nat}{r:N2}(hS:Sc S)(h:hnP S pl n d=some r):Bk 190 r:=by
  obtain⟨_,_,_,_,s,e,c,_,_,_,hs,_,h1,_,rfl⟩:=hn_inv h
  exact ovP_bd hS h1 hs
theorem of_bd {S n d:Nat}(hS:Sc S)(hn:n<10)(hd:0<d):Bk 99 (ofP S n d):=by
  have h1:n*S<10^99:=by
    have:=hS.lt
    have h2:n*S<=10*S:=Nat.mul_le_mul_right _ om
    omega
  exact⟨Nat.lt_of_le_of_lt (Nat.div_le_self _ _) h1,Nat.lt_of_le_of_lt (upn_le hd) h1⟩
theorem hasPrefixL_ok (l:List UInt8)(w:World):
    CL 137 #[S l,S ([45])] w (Ret w λv w'=>v=.bool (neg l)):=by
 refine f_in Tryz.func137 rfl ?_;refine go ?_;by_cases r8:((1:Nat):Int)<=(((l).length:Nat):Int);refine go ?_;refine l_op (k_lenL (l:=l) U9 rfl ?_);refine go ?_;refine l_op (k_lenLm (l:=[45]) (m:=1) U9 rfl rfl ?_);refine go ?_;refine l_op (k_lenLm (l:=[45]) (m:=1) U9 rfl rfl ?_);refine go ?_;refine l_op (k_sliceS (l:=l) (i:=0) (j:=(1)) U9 rfl (.inl ⟨rfl,rfl⟩) (.inr ⟨_,congrArg some rfl⟩) om om ?_);rw[show((l).take ((1))).drop 0=(l).take ((1))from rfl];refine go ?_;refine eqs (b:=[45]) ?_;refine go ?_;exact f_ret1 (t:=4) (v:=.bool (decide (((l).take ((1)))=([45])))) rfl (Ext.refl _) (hp_1 r8) rfl;refine go ?_;refine l_op (k_lenL (l:=l) U9 rfl ?_);refine go ?_;refine l_op (k_lenLm (l:=[45]) (m:=1) U9 rfl rfl ?_);refine go ?_;exact f_ret1 (t:=4) (v:=.bool false) rfl (Ext.refl _) (hp_0 r8) rfl
theorem hasPrefix_ok (l:List UInt8)(w:World):
    CL 96 #[S l,S ([45])] w (Ret w λv w'=>v=.bool (neg l)):=by
 refine f_in Tryz.func96 rfl ?_;refine go ?_;refine cl en158 (hasPrefixL_ok l _) ?_;rintro _ _ r8 rfl;have sc:=r8.2;refine go ?_;exact f_ret1 (t:=4) (v:=.bool (neg l)) rfl sc rfl rfl
theorem cutLT_ok {l:List UInt8}{w:World}(h:neg l=true):
    CL 140 #[S l,S ([45])] w (Ret w λv w'=>v=.tuple #[S (body l),.bool true]):=by
 refine f_in Tryz.func140 rfl ?_;refine go ?_;refine cl en158 (hasPrefixL_ok l _) ?_;rintro _ _ r8 rfl;have sc:=r8.2;refine go ?_;refine l_op (k_lenLm (l:=[45]) (m:=1) U9 rfl rfl ?_);refine l_op (k_sliceS (l:=l) (i:=(1)) (j:=(l).length) U9 rfl (.inr ⟨_,congrArg some rfl⟩) (.inl ⟨rfl,rfl⟩) (len_neg h) (Nat.le_refl _) ?_);rw[show((l).take ((l).length)).drop ((1))=(l).drop ((1))by rw[List.take_length]];refine go ?_;exact f_ret2 (t:=4) (u:=5) (v1:=S ((l).drop ((1)))) (v2:=.bool true) rfl sc (by rw[cut_t h]) rfl rfl
theorem cutT_ok {l:List UInt8}{w:World}(h:neg l=true):
    CL 100 #[S l,S ([45])] w (Ret w λv w'=>v=.tuple #[S (body l),.bool true]):=by
 refine f_in Tryz.func100 rfl ?_;refine go ?_;refine cl en1068 (cutLT_ok h) ?_;rintro _ _ r8 rfl;have sc:=r8.2;refine go ?_;exact f_ret2 (t:=4) (u:=5) (v1:=S (body l)) (v2:=.bool true) rfl sc rfl rfl rfl
theorem cutLF_ok {l:List UInt8}{w:World}(h:neg l=false):
    CL 140 #[S l,S ([45])] w (Ret w λv w'=>v=.tuple #[S l,.bool false]):=by
 refine f_in Tryz.func140 rfl ?_;refine go ?_;refine cl en158 (hasPrefixL_ok l _) ?_;rintro _ _ r8 rfl;have sc:=r8.2;refine go ?_;exact f_ret2 (t:=4) (u:=5) (v1:=S l) (v2:=.bool false) rfl sc rfl rfl rfl
theorem cutF_ok {l:List UInt8}{w:World}(h:neg l=false):
    CL 100 #[S l,S ([45])] w (Ret w λv w'=>v=.tuple #[S l,.bool false]):=by
 refine f_in Tryz.func100 rfl ?_;refine go ?_;refine cl en1068 (cutLF_ok h) ?_;rintro _ _ r8 rfl;have sc:=r8.2;refine go ?_;exact f_ret2 (t:=4) (u:=5) (v1:=S l) (v2:=.bool false) rfl sc rfl rfl rfl
theorem normal_ok {sO pl d:Nat}{N:Int}{r:Int×Int}{w:World}(hS:Sc sO)(hp:pl<81)(hr:nrP sO pl N d=some r)(ht:Tb w):
    CL 68 #[.agg #[.int .i64 pl,S (nS sO)],.agg #[S (showI N),S (nS d)]] w (Ret w λv w'=>v=.agg #[S (showI r.1),S (showI r.2)]):=by
 obtain⟨h,hh,rfl⟩:=nr_inv hr;have hb:=hn_bd hS hh;have ho:=of_bd (n:=1) (d:=2) hS dc dc;by_cases hN:N<0;rw[if_pos hN];refine f_in Tryz.func68 rfl ?_;refine go ?_;refine bx (λ_ apx r8=>?_);have aoq:=apx.2;refine bx (λapr aps sc=>?_);have⟨r8,aoq⟩:=be1 aps.2 r8 aoq;refine al inf1056 (λ_ apn aom=>?_);have⟨r8,sc,aoq⟩:=be2 apn.2 r8 sc aoq;refine go ?_;refine clb en1032 (hc:=spOfL_ok (n:=1) (d:=2) lit1 lit2 hS fi1 (fi_pow (k:=1) dc dc) dc (by rw[Nat.one_mul];exact hS.fi) (ht.ext aoq)) (hk:=?_);rintro _ _ ao8 rfl;have⟨r8,sc,aom,aoq⟩:=be3 ao8.2 r8 sc aom aoq;refine al inf1056 (λ_ ao9 apy=>?_);have⟨r8,sc,aom,aoq⟩:=be3 ao9.2 r8 sc aom aoq;refine SA apy (λ_ aot aoo=>?_);have⟨r8,sc,aom,aoq,_⟩:=pl3 aot r8 sc aom aoq;refine go ?_;refine cl en1028 (cEq (Y:=.tuple #[S (nS N.natAbs),.bool true]) (cutT_ok (neg_z hN)) (congrArg (λl=>Value.tuple #[S l,.bool true]) (body_z _))) ?_;rintro _ _ aou rfl;have⟨r8,sc,aom,aoo,aoq⟩:=be4 aou.2 r8 sc aom aoo aoq;refine go ?_;refine c_an 8 ?_;refine sf ?_;refine sf_ae (V:=.agg #[S (nS h.1),S (nS h.2)]) (λ_ _ aov _=>?_) ?_;refine cl en1095 (halfNormal_ok hS hp hh (ht.ext (xt aoq aov))) ?_;rintro _ _ aow rfl;have apz:=aow.2;refine go ?_;exact fs ⟨apz,rfl⟩;refine sf ?_;intro _ _ aox _;have⟨r8,sc,aom,aoo,aoq⟩:=be4 aox.2 r8 sc aom aoo aoq;refine clb en1094 (hc:=spMinus_ok (ho.mono dc) (hb.mono dc) (ht.ext aoq)) (hk:=?_);rintro _ _ aoy rfl
 have⟨r8,sc,aom,aoo,aoq⟩:=be4 aoy.2 r8 sc aom aoo aoq;refine SA aom (λ_ aoz ap0=>?_);have⟨r8,sc,aoo,aoq,_⟩:=pl3 aoz r8 sc aoo aoq;refine go ?_;refine f_out (v:=.agg #[S (showI ((miP (ofP sO 1 2) h).1)),S (showI ((miP (ofP sO 1 2) h).2))]) (res1  rfl ?_) aoq rfl;refine res_cellA (t:=4) (cs:=[S (showI ((miP (ofP sO 1 2) h).1)),S (showI ((miP (ofP sO 1 2) h).2))]) (b:=apr.heap.size) (o:=0) U1056 rfl sz1056 ?_ ?_;exact rfl;exact Blk.cells ap0 (i:=0) rfl;rw[if_neg hN];refine f_in Tryz.func68 rfl ?_;refine go ?_;refine bx (λ_ ap1 aol=>?_);have aor:=ap1.2;refine bx (λapu apv aon=>?_);have⟨aol,aor⟩:=be1 apv.2 aol aor;refine al inf1056 (λ_ apq aop=>?_);have⟨aol,aon,aor⟩:=be2 apq.2 aol aon aor;refine go ?_;refine clb en1032 (hc:=spOfL_ok (n:=1) (d:=2) lit1 lit2 hS fi1 (fi_pow (k:=1) dc dc) dc (by rw[Nat.one_mul];exact hS.fi) (ht.ext aor)) (hk:=?_);rintro _ _ aph rfl;have⟨aol,aon,aop,aor⟩:=be3 aph.2 aol aon aop aor;refine al inf1056 (λ_ api ap2=>?_);have⟨aol,aon,aop,aor⟩:=be3 api.2 aol aon aop aor;refine SA ap2 (λ_ ao0 aos=>?_);have⟨aol,aon,aop,aor,_⟩:=pl3 ao0 aol aon aop aor;refine go ?_;refine cl en1028 (cutF_ok (pos_z hN)) ?_;rintro _ _ ao1 rfl;have⟨aol,aon,aop,aos,aor⟩:=be4 ao1.2 aol aon aop aos aor;refine go ?_;refine c_an 5 ?_;refine sf ?_;refine sf_ae (V:=.agg #[S (nS h.1),S (nS h.2)]) (λ_ _ ao2 _=>?_) ?_
 refine clb en1095 (hc:=show CL 102 #[.agg #[.int .i64 pl,S (nS sO)],.agg #[S (showI N),S (nS d)]] _ _ by rw[showI_nS hN];exact halfNormal_ok hS hp hh (ht.ext (xt aor ao2))) (hk:=?_);rintro _ _ ao3 rfl;have ap3:=ao3.2;refine go ?_;exact fs ⟨ap3,rfl⟩;refine sf ?_;intro _ _ ao4 _;have⟨aol,aon,aop,aos,aor⟩:=be4 ao4.2 aol aon aop aos aor;refine clb en1078 (hc:=spPlus_ok (by have:=hb.1;have:=ho.1;unfold Fi;omega) (by have:=hb.2;have:=ho.2;unfold Fi;omega) (ht.ext aor)) (hk:=?_);rintro _ _ ao5 rfl;have⟨aol,aon,aop,aos,aor⟩:=be4 ao5.2 aol aon aop aos aor;refine SA aop (λ_ ao6 ap4=>?_);have⟨aol,aon,aos,aor,_⟩:=pl3 ao6 aol aon aos aor;refine go ?_;refine f_out (v:=.agg #[S (nS ((plP (ofP sO 1 2) h).1)),S (nS ((plP (ofP sO 1 2) h).2))]) (res1  rfl ?_) aor rfl;refine res_cellA (t:=4) (cs:=[S (nS ((plP (ofP sO 1 2) h).1)),S (nS ((plP (ofP sO 1 2) h).2))]) (b:=apu.heap.size) (o:=0) U1056 rfl sz1056 ?_ ?_;exact rfl;exact Blk.cells ap4 (i:=0) rfl
theorem cmpI_swap (x y:Int):cmpI x y=-cmpI y x:=by
  unfold cmpI;repeat' split
  all_goals first|rfl|omega
theorem cmpI_iff {a b c d:Int}(h1:a<b↔c<d)(h2:a=b↔c=d):cmpI a b=cmpI c d:=by
  unfold cmpI
  by_cases h:a<b
  · rw[if_pos h,if_pos (h1.1 h)]
  · rw[if_neg h,if_neg (λe=>h (h1.2 e))]
    by_cases h':a=b
    · rw[if_pos h',if_pos (h2.1 h')]
    · rw[if_neg h',if_neg (λe=>h' (h2.2 e))]
theorem cmpI_sub {a b c d:Int}(h:a-b=c-d):cmpI a b=cmpI c d:=cmpI_iff om om
theorem floor_lt {n1 d1 n2 d2:Int}(h1:0<d1)(h2:0<d2)(h:n1/d1<n2/d2):n1*d2<n2*d1:=by
  have e1:=Int.lt_ediv_add_one_mul_self n1 h1
  have e2:=Int.ediv_mul_le n2 (show d2≠0 by omega)
  have e3:(n1/d1+1)*d1<=(n2/d2)*d1:=Int.mul_le_mul_of_nonneg_right om om
  have e4:n1*d2<(n2/d2)*d1*d2:=Int.mul_lt_mul_of_pos_right om h2
  have e5:(n2/d2)*d2*d1<=n2*d1:=Int.mul_le_mul_of_nonneg_right e2 om
  have e6:(n2/d2)*d1*d2=(n2/d2)*d2*d1:=by rw[Int.mul_assoc,Int.mul_comm d1 d2,<-Int.mul_assoc]
  omega
theorem cq_ne {n1 d1 n2 d2:Int}(h1:0<d1)(h2:0<d2)(h:¬cmpI (n1/d1) (n2/d2)=0):cmpI (n1/d1) (n2/d2)=cmpI (n1*d2) (n2*d1):=by
  have hne:n1/d1≠n2/d2:=λe=>h (cmpI_eq e)
  rcases Int.lt_or_gt_of_ne hne with hl|hl
  · rw[cmpI_lt hl,cmpI_lt (floor_lt h1 h2 hl)]
  · rw[cmpI_gt hl,cmpI_gt (floor_lt h2 h1 hl)]
theorem cmpI_zero {x y:Int}(h:cmpI x y=0):x=y:=by
  unfold cmpI at h
  split at h
  · omega
  · split at h
    · assumption
    · omega
theorem cq_eq {n1 d1 n2 d2:Int}(h:cmpI (n1/d1) (n2/d2)=0):cmpI (n1*d2) (n2*d1)=cmpI (n1%d1*d2) (n2%d2*d1):=by
  have e:=cmpI_zero h
  refine cmpI_sub ?_
  have a1:=Int.mul_ediv_add_emod n1 d1
  have a2:=Int.mul_ediv_add_emod n2 d2
  generalize n1/d1=p at *;generalize n2/d2=q at *;generalize n1%d1=r at *;generalize n2%d2=s at *
  subst e;subst a1;subst a2
  rw[Int.add_mul,Int.add_mul,show d1*p*d2=d2*p*d1 by rw[Int.mul_comm d1 p,Int.mul_comm d2 p,Int.mul_assoc,Int.mul_comm d1 d2,<-Int.mul_assoc]]
  omega
theorem in64_sg {sg x y:Int}(h:sg=1∨sg=-1):In64 (sg*cmpI x y):=by
  have h1:cmpI x y<=1∧-1<=cmpI x y:=by unfold cmpI;split;omega;split <;>omega
  unfold In64;rcases h with rfl|rfl <;>omega
section
variable {N1 D1 N2 D2 n1 d1 n2 d2 sg:Int}(hi:cmpI (N1*D2) (N2*D1)=sg*cmpI (n1*d2) (n2*d1))(h1:0<d1)(h2:0<d2)
include hi h1 h2
theorem cp_ne (h:¬cmpI (n1/d1) (n2/d2)=0):sg*cmpI (n1/d1) (n2/d2)=cmpI (N1*D2) (N2*D1):=by rw[hi,cq_ne h1 h2 h]
theorem cp_00 (h:cmpI (n1/d1) (n2/d2)=0)(hr:showI (n1%d1)=[48])(hs:showI (n2%d2)=[48]):0=cmpI (N1*D2) (N2*D1):=by
  rw[hi,cq_eq h,showI_zero.1 hr,showI_zero.1 hs];simp[cmpI]
theorem cp_0n (h:cmpI (n1/d1) (n2/d2)=0)(hr:showI (n1%d1)=[48])(hs:¬showI (n2%d2)=[48]):-sg=cmpI (N1*D2) (N2*D1):=by
  have h0:n2%d2≠0:=λe=>hs (showI_zero.2 e)
  have h3:=Int.emod_nonneg n2 (show d2≠0 by omega)
  rw[hi,cq_eq h,showI_zero.1 hr,cmpI_lt (by rw[Int.zero_mul];exact Int.mul_pos om h1)];omega
theorem cp_n0 (h:cmpI (n1/d1) (n2/d2)=0)(hr:¬showI (n1%d1)=[48])(hs:showI (n2%d2)=[48]):sg=cmpI (N1*D2) (N2*D1):=by
  have h0:n1%d1≠0:=λe=>hr (showI_zero.2 e)
  have h3:=Int.emod_nonneg n1 (show d1≠0 by omega)
  rw[hi,cq_eq h,showI_zero.1 hs,cmpI_gt (by rw[Int.zero_mul];exact Int.mul_pos om h2)];omega
theorem cp_go (h:cmpI (n1/d1) (n2/d2)=0)(hr:¬showI (n1%d1)=[48])(hs:¬showI (n2%d2)=[48]):
    cmpI (N1*D2) (N2*D1)=-sg*cmpI (d1*(n2%d2)) (d2*(n1%d1))∧0<n1%d1∧0<n2%d2:=by
  have h0:n1%d1≠0:=λe=>hr (showI_zero.2 e)
  have h3:=Int.emod_nonneg n1 (show d1≠0 by omega)
  have h4:n2%d2≠0:=λe=>hs (showI_zero.2 e)
  have h5:=Int.emod_nonneg n2 (show d2≠0 by omega)
  refine⟨?_,by omega,by omega⟩
  rw[hi,cq_eq h,cmpI_swap (d1*_),Int.mul_comm d1,Int.mul_comm d2,Int.neg_mul_neg]
end
theorem fz_mod {n d:Int}(h:Fz d)(hd:0<d):Fz (n%d):=by
  have h1:=Int.emod_nonneg n (show d≠0 by omega)
  have h2:=Int.emod_lt_of_pos n hd
  unfold Fz at *;omega
set_option maxRecDepth 100000 in
theorem rCmpZ_ok {N1 D1 N2 D2:Int}{w:World}(o1:okR (showI N1,showI D1)=true)(o2:okR (showI N2,showI D2)=true)(fN1:Fz N1)(fD1:Fz D1)(fN2:Fz N2)(fD2:Fz D2)(ht:Tb w):
    CL 12 #[.agg #[S (showI N1),S (showI D1)],.agg #[S (showI N2),S (showI D2)]] w (Ret w λv w'=>v=.int .i64 (cmpI (N1*D2) (N2*D1))):=by
 have P1:0<D1:=by have:=okR_pos o1;rwa [valZ_showI]at this
 have P2:0<D2:=by have:=okR_pos o2;rwa [valZ_showI]at this
 refine f_in Tryz.func12 rfl ?_;refine go ?_;refine bx (λr8 arw ao2=>?_);have aoz:=arw.2;refine bx (λ_ ap6 ao4=>?_);have⟨ao2,aoz⟩:=be1 ap6.2 ao2 aoz;refine go ?_;refine cl en82 (rValid_ok (showI N1) (showI D1) _ (ht.ext aoz)) ?_;rintro _ _ api rfl;have⟨ao2,ao4,aoz⟩:=be2 api.2 ao2 ao4 aoz;refine go ?_;refine cl en82 (rValid_ok (showI N2) (showI D2) _ (ht.ext aoz)) ?_;rintro _ _ apj rfl;have⟨ao2,ao4,aoz⟩:=be2 apj.2 ao2 ao4 aoz;refine go ?_;refine wpIn_label (n_then ?_);refine c_lab [(4,12),(21,73)] (λkk e W=>∃n1:Int,∃d1:Int,∃n2:Int,∃d2:Int,∃sg:Int,(d1.toNat=kk)∧(e 5=.int .i64 sg)∧(0<d1)∧(0<d2)∧(Fz n1)∧(Fz d1)∧(Fz n2)∧(Fz d2)∧(sg=1∨sg=-1)∧(cmpI (N1*D2) (N2*D1)=sg*cmpI (n1*d2) (n2*d1))∧(Ext w W)∧(Blk W (w.heap.size) 25 #[S (showI n1),S (showI d1)])∧(Blk W (r8.heap.size) 25 #[S (showI n2),S (showI d2)])) ((D1).toNat) ⟨N1,D1,N2,D2,1,rfl,rfl,P1,P2,fN1,fD1,fN2,fD2,(Or.inl rfl),(Int.one_mul _).symm,aoz,ao2,ao4⟩ ?_;rintro _ _ _ ⟨n1,d1,n2,d2,sg,rfl,ao8,p1,p2,fn1,fd1,fn2,fd2,hsg,hi,kx,hB1,hB2⟩;have aus:=bz kx;refine go ?_;refine cl en83 (cEq (Y:=.tuple #[S (showI (n1/d1)),S (showI (n1%d1)),.int .i64 0]) (iDiv_ok _ _ _ (ht.ext kx)) (congrArg resD (divI_Z fn1 fd1 (Int.ne_of_gt p1) (fz_div fn1 p1)))) ?_;rintro _ _ apk rfl;have⟨hB1,hB2,kx⟩:=be2 apk.2 hB1 hB2 kx;refine go ?_
 refine cl en83 (cEq (Y:=.tuple #[S (showI (n2/d2)),S (showI (n2%d2)),.int .i64 0]) (iDiv_ok _ _ _ (ht.ext kx)) (congrArg resD (divI_Z fn2 fd2 (Int.ne_of_gt p2) (fz_div fn2 p2)))) ?_;rintro _ _ apl rfl;have⟨hB1,hB2,kx⟩:=be2 apl.2 hB1 hB2 kx;refine go ?_;refine cl en84 (cEq (Y:=.int .i64 (cmpI (n1/d1) (n2/d2))) (iCmp_ok _ _ _) (congrArg (Value.int .i64) (cmpS_Z (fz_div fn1 p1) (fz_div fn2 p2)))) ?_;rintro _ ap7 apm rfl;have⟨hB1,hB2,kx⟩:=be2 apm.2 hB1 hB2 kx;refine go ?_;by_cases ao0:(cmpI (n1/d1) (n2/d2))=0;refine go ?_;by_cases aoy:(showI (n1%d1))=([48]);refine go ?_;refine eqs (b:=[48]) ?_;refine go ?_;refine eqs (b:=[48]) ?_;refine go ?_;by_cases ao9:(showI (n2%d2))=([48]);refine go ?_;exact f_ret1 (t:=4) (v:=.int .i64 0) rfl kx (congrArg (Value.int .i64) (cp_00 hi p1 p2 ao0 aoy ao9)) rfl;refine go ?_;refine eqs (b:=[48]) ?_;refine go ?_;refine l_op (k_neg (a:=sg) rfl (by unfold In64;omega) ?_);refine go ?_;exact f_ret1 (t:=4) (v:=.int .i64 (-sg)) rfl kx (congrArg (Value.int .i64) (cp_0n hi p1 p2 ao0 aoy ao9)) rfl;refine go ?_;refine eqs (b:=[48]) ?_;refine go ?_;refine eqs (b:=[48]) ?_;refine go ?_;refine eqs (b:=[48]) ?_;refine go ?_;by_cases ao5:(showI (n2%d2))=([48]);refine go ?_;exact f_ret1 (t:=4) (v:=.int .i64 sg) rfl kx (congrArg (Value.int .i64) (cp_n0 hi p1 p2 ao0 aoy ao5)) rfl;refine go ?_;have apa:=Ext.drew ap7
 refine c_st2 hmix 12 (λe0 ls e W=>(∀t,inB [64,65,66,67,68,69,70,71,72,73] t=false->e t=e0 t)∧(Ext w W)∧(ap7.heap.size<=W.heap.size)∧(ls 0=true->e 64=.pointer (some ⟨w.heap.size,1,none⟩))∧(ls 1=true->e 65=S (showI d1))∧(ls 2=true->e 66=S (showI (n1%d1)))∧(ls 3=true->e 67=.agg #[S (showI d1),S (showI (n1%d1))])∧(ls 4=true->e 68=.pointer (some ⟨r8.heap.size,1,none⟩))∧(ls 5=true->e 69=S (showI d2))∧(ls 6=true->e 70=S (showI (n2%d2)))∧(ls 7=true->e 71=.agg #[S (showI d2),S (showI (n2%d2))])∧(ls 8=true->e 72=.int .i64 sg)∧(ls 9=true->e 73=.int .i64 (-sg))∧(ls 10=false->Blk W (w.heap.size) 25 #[S (showI n1),S (showI d1)])∧(ls 10=true->Blk W (w.heap.size) 25 #[S (showI d1),S (showI (n1%d1))])∧(ls 11=false->Blk W (r8.heap.size) 25 #[S (showI n2),S (showI d2)])∧(ls 11=true->Blk W (r8.heap.size) 25 #[S (showI d2),S (showI (n2%d2))])) ⟨(λ_ _=>rfl),(xt kx apa),(bz apa),(ff rfl),(ff rfl),(ff rfl),(ff rfl),(ff rfl),(ff rfl),(ff rfl),(ff rfl),(ff rfl),(ff rfl),(λ_=>(be apa hB1)),(λh=>ff rfl h),(λ_=>(be apa hB2)),(λh=>ff rfl h)⟩ (by kernel_rfl) (by kernel_rfl) ?_ ?_;refine⟨λauy ap8 apb arx apc apn _=>?_,?_⟩;obtain⟨ap9,kx,zst,sc,aol,aom,aon,aoo,aop,aoq,aor,aos,aot,aov,aow,aou,aox⟩:=arx;obtain⟨auy,rfl⟩:=ovE ap9;have ary:apb 1=false:=(unl apc (i:=0) (j:=1) rfl apn)
 have aqa:apb 10=false:=(unl apc (i:=0) (j:=10) rfl apn);have aqb:apb 11=false:=(unl apc (i:=0) (j:=11) rfl apn);have au0:apb 3=false:=(unl apc (i:=1) (j:=3) rfl ary);have au1:=bz kx;have aqc:Blk ap8 (w.heap.size) 25 #[S (showI n1),S (showI d1)]:=aov aqa;have au2:=bt aqc;have aqd:Blk ap8 (r8.heap.size) 25 #[S (showI n2),S (showI d2)]:=aou aqb;have au3:=bt aqd;refine go ?_;exact⟨rfl,_,(act_put _ _ _ _ _).symm,(same_upd rfl ap9),kx,om,(λ_=>rfl),aol,aom,aon,aoo,aop,aoq,aor,aos,aot,(λ_=>aqc),(λarz=>ff aqa arz),(λ_=>aqd),(λar0=>ff aqb ar0)⟩;refine⟨λar1 aqe apd ar2 apo apq ar3=>?_,?_⟩;obtain⟨ar4,kx,zst,sc,aol,aom,aon,aoo,aop,aoq,aor,aos,aot,aov,aow,aou,aox⟩:=ar2;obtain⟨ar1,rfl⟩:=ovE ar4;have ar5:apd 0=true:=(ar3 0 rfl);have au6:apd 3=false:=(unl apo (i:=1) (j:=3) rfl apq);have aqf:apd 10=false:=(unl apo (i:=1) (j:=10) rfl apq);have aqg:apd 11=false:=(unl apo (i:=1) (j:=11) rfl apq);have ar6:ar1 64=.pointer (some ⟨w.heap.size,1,none⟩):=sc ar5;have au7:=bz kx;have apr:Blk aqe (w.heap.size) 25 #[S (showI n1),S (showI d1)]:=aov aqf;have au8:=bt apr;have aqh:Blk aqe (r8.heap.size) 25 #[S (showI n2),S (showI d2)]:=aou aqg;have au9:=bt aqh;refine go ?_
 exact⟨rfl,_,(act_put _ _ _ _ _).symm,(same_upd rfl ar4),kx,om,sc,(λ_=>rfl),aom,aon,aoo,aop,aoq,aor,aos,aot,(λ_=>apr),(λar7=>ff aqf ar7),(λ_=>aqh),(λar8=>ff aqg ar8)⟩;refine⟨λavc aqi aps ar9 apt apu _=>?_,?_⟩;obtain⟨aqj,kx,zst,sc,aol,aom,aon,aoo,aop,aoq,aor,aos,aot,aov,aow,aou,aox⟩:=ar9;obtain⟨avc,rfl⟩:=ovE aqj;have ave:aps 3=false:=(unl apt (i:=2) (j:=3) rfl apu);have aqk:aps 10=false:=(unl apt (i:=2) (j:=10) rfl apu);have aql:aps 11=false:=(unl apt (i:=2) (j:=11) rfl apu);have avf:=bz kx;have aqm:Blk aqi (w.heap.size) 25 #[S (showI n1),S (showI d1)]:=aov aqk;have avg:=bt aqm;have aqn:Blk aqi (r8.heap.size) 25 #[S (showI n2),S (showI d2)]:=aou aql;have avh:=bt aqn;refine go ?_;exact⟨rfl,_,(act_put _ _ _ _ _).symm,(same_upd rfl aqj),kx,om,sc,aol,(λ_=>rfl),aon,aoo,aop,aoq,aor,aos,aot,(λ_=>aqm),(λasa=>ff aqk asa),(λ_=>aqn),(λasb=>ff aql asb)⟩;refine⟨λaqo aqp ao6 asc apv aqq aqr=>?_,?_⟩;obtain⟨asd,kx,zst,sc,aol,aom,aon,aoo,aop,aoq,aor,aos,aot,aov,aow,aou,aox⟩:=asc;obtain⟨aqo,rfl⟩:=ovE asd;have ase:ao6 2=true:=(aqr 2 rfl);have aqs:ao6 1=true:=(aqr 1 rfl);have avk:ao6 0=true:=(apv 1 0 rfl aqs);have aqt:ao6 10=false:=(unl apv (i:=3) (j:=10) rfl aqq);have aqu:ao6 11=false:=(unl apv (i:=3) (j:=11) rfl aqq)
 have asf:aqo 65=S (showI d1):=aol aqs;have asg:aqo 66=S (showI (n1%d1)):=aom ase;have avl:=bz kx;have aqv:Blk aqp (w.heap.size) 25 #[S (showI n1),S (showI d1)]:=aov aqt;have avm:=bt aqv;have aqw:Blk aqp (r8.heap.size) 25 #[S (showI n2),S (showI d2)]:=aou aqu;have avn:=bt aqw;refine l_op (k_build (vs:=[(0,S (showI d1)),(1,S (showI (n1%d1)))]) (cells:=#[S (showI d1),S (showI (n1%d1))]) (pl:=[(0,1),(1,1)]) U36 inf36 (by kernel_rfl) (cons_eqp asf (cons_eqp asg rfl)) (by kernel_rfl) ?_);refine go ?_;exact⟨rfl,_,(act_put _ _ _ _ _).symm,(same_upd rfl asd),kx,om,sc,aol,aom,(λ_=>rfl),aoo,aop,aoq,aor,aos,aot,(λ_=>aqv),(λash=>ff aqt ash),(λ_=>aqw),(λasi=>ff aqu asi)⟩;refine⟨λavq asj apw ask apx aqx _=>?_,?_⟩;obtain⟨aqy,kx,zst,sc,aol,aom,aon,aoo,aop,aoq,aor,aos,aot,aov,aow,aou,aox⟩:=ask;obtain⟨avq,rfl⟩:=ovE aqy;have asl:apw 5=false:=(unl apx (i:=4) (j:=5) rfl aqx);have aqz:apw 11=false:=(unl apx (i:=4) (j:=11) rfl aqx);have avs:apw 7=false:=(unl apx (i:=5) (j:=7) rfl asl);have avt:=bz kx;have aq0:Blk asj (r8.heap.size) 25 #[S (showI n2),S (showI d2)]:=aou aqz;have avu:=bt aq0;refine go ?_;exact⟨rfl,_,(act_put _ _ _ _ _).symm,(same_upd rfl aqy),kx,om,sc,aol,aom,aon,(λ_=>rfl),aop,aoq,aor,aos,aot,(λasm=>aov asm),(λaso=>aow aso),(λ_=>aq0),(λasp=>ff aqz asp)⟩
 refine⟨λasq asr apy ass aq1 aq2 ast=>?_,?_⟩;obtain⟨asu,kx,zst,sc,aol,aom,aon,aoo,aop,aoq,aor,aos,aot,aov,aow,aou,aox⟩:=ass;obtain⟨asq,rfl⟩:=ovE asu;have asv:apy 4=true:=(ast 4 rfl);have avw:apy 7=false:=(unl aq1 (i:=5) (j:=7) rfl aq2);have aq3:apy 11=false:=(unl aq1 (i:=5) (j:=11) rfl aq2);have asw:asq 68=.pointer (some ⟨r8.heap.size,1,none⟩):=aoo asv;have avx:=bz kx;have apz:Blk asr (r8.heap.size) 25 #[S (showI n2),S (showI d2)]:=aou aq3;have avy:=bt apz;refine go ?_;exact⟨rfl,_,(act_put _ _ _ _ _).symm,(same_upd rfl asu),kx,om,sc,aol,aom,aon,aoo,(λ_=>rfl),aoq,aor,aos,aot,(λasx=>aov asx),(λasy=>aow asy),(λ_=>apz),(λasz=>ff aq3 asz)⟩;refine⟨λav0 as0 aq4 as1 aq5 aq6 _=>?_,?_⟩;obtain⟨aq7,kx,zst,sc,aol,aom,aon,aoo,aop,aoq,aor,aos,aot,aov,aow,aou,aox⟩:=as1;obtain⟨av0,rfl⟩:=ovE aq7;have av2:aq4 7=false:=(unl aq5 (i:=6) (j:=7) rfl aq6);have aq8:aq4 11=false:=(unl aq5 (i:=6) (j:=11) rfl aq6);have av3:=bz kx;have aq9:Blk as0 (r8.heap.size) 25 #[S (showI n2),S (showI d2)]:=aou aq8;have av4:=bt aq9;refine go ?_;exact⟨rfl,_,(act_put _ _ _ _ _).symm,(same_upd rfl aq7),kx,om,sc,aol,aom,aon,aoo,aop,(λ_=>rfl),aor,aos,aot,(λas2=>aov as2),(λas3=>aow as3),(λ_=>aq9),(λas4=>ff aq8 as4)⟩;refine⟨λara as5 ape as6 arb as7 arc=>?_,?_⟩
 obtain⟨as8,kx,zst,sc,aol,aom,aon,aoo,aop,aoq,aor,aos,aot,aov,aow,aou,aox⟩:=as6;obtain⟨ara,rfl⟩:=ovE as8;have as9:ape 6=true:=(arc 6 rfl);have ard:ape 5=true:=(arc 5 rfl);have av6:ape 4=true:=(arb 5 4 rfl ard);have arf:ape 11=false:=(unl arb (i:=7) (j:=11) rfl as7);have ata:ara 69=S (showI d2):=aop ard;have atb:ara 70=S (showI (n2%d2)):=aoq as9;have av7:=bz kx;have arh:Blk as5 (r8.heap.size) 25 #[S (showI n2),S (showI d2)]:=aou arf;have av8:=bt arh;refine l_op (k_build (vs:=[(0,S (showI d2)),(1,S (showI (n2%d2)))]) (cells:=#[S (showI d2),S (showI (n2%d2))]) (pl:=[(0,1),(1,1)]) U36 inf36 (by kernel_rfl) (cons_eqp ata (cons_eqp atb rfl)) (by kernel_rfl) ?_);refine go ?_;exact⟨rfl,_,(act_put _ _ _ _ _).symm,(same_upd rfl as8),kx,om,sc,aol,aom,aon,aoo,aop,aoq,(λ_=>rfl),aos,aot,(λatc=>aov atc),(λatd=>aow atd),(λ_=>arh),(λate=>ff arf ate)⟩;refine⟨λawa _ atf atg ath ati _=>?_,?_⟩;obtain⟨ari,kx,zst,sc,aol,aom,aon,aoo,aop,aoq,aor,aos,aot,aov,aow,aou,aox⟩:=atg;obtain⟨awa,rfl⟩:=ovE ari;have awd:atf 9=false:=(unl ath (i:=8) (j:=9) rfl ati);have awe:=bz kx;refine go ?_;exact⟨rfl,_,(act_put _ _ _ _ _).symm,(same_upd rfl ari),kx,om,sc,aol,aom,aon,aoo,aop,aoq,aor,(λ_=>rfl),aot,(λatj=>aov atj),(λatk=>aow atk),(λatl=>aou atl),(λatm=>aox atm)⟩
 refine⟨λatn _ ato atp _ _ atq=>?_,?_⟩;obtain⟨atr,kx,zst,sc,aol,aom,aon,aoo,aop,aoq,aor,aos,aot,aov,aow,aou,aox⟩:=atp;obtain⟨atn,rfl⟩:=ovE atr;have att:ato 8=true:=(atq 8 rfl);have atu:atn 72=.int .i64 (sg):=aos att;have awi:=bz kx;refine l_op (k_neg (a:=sg) atu (by unfold In64;omega) ?_);refine go ?_;exact⟨rfl,_,(act_put _ _ _ _ _).symm,(same_upd rfl atr),kx,om,sc,aol,aom,aon,aoo,aop,aoq,aor,aos,(λ_=>rfl),(λatv=>aov atv),(λatw=>aow atw),(λatx=>aou atx),(λaty=>aox aty)⟩;refine⟨λatz arj ao7 at0 apf ark at1=>?_,?_⟩;obtain⟨arl,kx,zst,sc,aol,aom,aon,aoo,aop,aoq,aor,aos,aot,aov,aow,aou,aox⟩:=at0;obtain⟨atz,rfl⟩:=ovE arl;have ap0:ao7 3=true:=(at1 3 rfl);have awj:ao7 2=true:=(apf 3 2 rfl ap0);have at2:ao7 1=true:=(apf 3 1 rfl ap0);have awk:ao7 0=true:=(apf 1 0 rfl at2);have arm:ao7 11=false:=(unl apf (i:=10) (j:=11) rfl ark);have at3:atz 67=.agg #[S (showI d1),S (showI (n1%d1))]:=aon ap0;have awl:=bz kx;have arn:Blk arj (w.heap.size) 25 #[S (showI n1),S (showI d1)]:=aov ark;have awm:=bt arn;have apg:Blk arj (r8.heap.size) 25 #[S (showI n2),S (showI d2)]:=aou arm;have awn:=bt apg;refine SA arn (λ_ ap1 at4=>?_);have⟨apg,kx,_⟩:=pl1 ap1 apg kx;refine go ?_
 exact⟨rfl,undef,rfl,arl,kx,om,sc,aol,aom,aon,aoo,aop,aoq,aor,aos,aot,(λat6=>tf rfl at6),(λ_=>at4),(λ_=>apg),(λat7=>ff arm at7)⟩;refine⟨λat8 aro ao1 at9 ao3 aua arp=>?_,?_⟩;obtain⟨arq,kx,zst,sc,aol,aom,aon,aoo,aop,aoq,aor,aos,aot,aov,aow,aou,aox⟩:=at9;obtain⟨at8,rfl⟩:=ovE arq;have ap2:ao1 10=true:=(arp 10 rfl);have arr:ao1 3=true:=(ao3 10 3 rfl ap2);have aws:ao1 2=true:=(ao3 3 2 rfl arr);have aub:ao1 1=true:=(ao3 3 1 rfl arr);have awt:ao1 0=true:=(ao3 1 0 rfl aub);have ap3:ao1 7=true:=(arp 7 rfl);have awu:ao1 6=true:=(ao3 7 6 rfl ap3);have auc:ao1 5=true:=(ao3 7 5 rfl ap3);have awv:ao1 4=true:=(ao3 5 4 rfl auc);have aud:at8 71=.agg #[S (showI d2),S (showI (n2%d2))]:=aor ap3;have aww:=bz kx;have aph:Blk aro (w.heap.size) 25 #[S (showI d1),S (showI (n1%d1))]:=aow ap2;have awx:=bt aph;have ars:Blk aro (r8.heap.size) 25 #[S (showI n2),S (showI d2)]:=aou aua;have awy:=bt ars;refine SA ars (λ_ ap4 aue=>?_);have⟨aph,kx,_⟩:=pl1 ap4 aph kx;refine go ?_;exact⟨rfl,undef,rfl,arq,kx,om,sc,aol,aom,aon,aoo,aop,aoq,aor,aos,aot,(λauf=>tf ap2 auf),(λ_=>aph),(λaug=>tf rfl aug),(λ_=>aue)⟩;exact trivial;intro auh art _ ap5 aui;obtain⟨aw4,kx,zst,sc,aol,aom,aon,aoo,aop,aoq,aor,aos,aot,aov,aow,aou,aox⟩:=aui;obtain⟨auh,rfl⟩:=ovE aw4;have aw5:=bz kx
 have aru:Blk art (w.heap.size) 25 #[S (showI d1),S (showI (n1%d1))]:=aow (ap5 10 rfl);have aw6:=bt aru;have arv:Blk art (r8.heap.size) 25 #[S (showI d2),S (showI (n2%d2))]:=aox (ap5 11 rfl);have aw7:=bt arv;have auj:auh 73=.int .i64 (-sg):=(aot (ap5 9 rfl));refine go ?_;exact lend (hk:=by have:=Int.emod_lt_of_pos n1 p1;have:=Int.emod_nonneg n1 (Int.ne_of_gt p1);omega) ⟨d1,n1%d1,d2,n2%d2,-sg,rfl,rfl,(cp_go hi p1 p2 ao0 aoy ao5).2.1,(cp_go hi p1 p2 ao0 aoy ao5).2.2,fd1,(fz_mod fd1 p1),fd2,(fz_mod fd2 p2),om,(cp_go hi p1 p2 ao0 aoy ao5).1,kx,aru,arv⟩;refine go ?_;refine l_op (k_mul (a:=sg) (b:=cmpI (n1/d1) (n2/d2)) (c:=sg*cmpI (n1/d1) (n2/d2)) rfl rfl (in64_sg hsg) rfl ?_);refine go ?_;exact f_ret1 (t:=4) (v:=.int .i64 (sg*cmpI (n1/d1) (n2/d2))) rfl kx (congrArg (Value.int .i64) (cp_ne hi p1 p2 ao0)) rfl
theorem itoa_int (n:Int):Lib.itoa n=showI n:=by
  unfold Lib.itoa showI
  split
  · rw[decDigits_showN]
  · rw[decDigits_showN];congr 1;omega
def qR (a b:Int):R:=(showI (redN a b),showI (redD a b))
theorem makeR_q {a b:Int}(hb:b≠0):makeR a b=some (qR a b):=by unfold makeR;rw[if_neg hb];rfl
section
variable {w:World}{b:Nat}{x y:Int}{l m:List UInt8}
theorem wMul_ok (hB:Blk w b 53 #[.bool false])(ht:Tb w)(hl:l=showI x)(hm:m=showI y)(fx:Fz x)(fy:Fz y)(fz:Fz (x*y)):
    CL 25 #[pT b,S l,S m] w (RetA λv w'=>w.grownBy w' (some b)∧Blk w' b 53 #[.bool false]∧v=S (showI (x*y))):=by
  have h:=mul_ok hB ht l m
  subst hl hm
  rw[mulI_Z fx fy fz]at h
  exact h
theorem wAdd_ok (hB:Blk w b 53 #[.bool false])(ht:Tb w)(hl:l=showI x)(hm:m=showI y)(fx:Fz x)(fy:Fz y)(fz:Fz (x+y)):
    CL 57 #[pT b,.func (.func 40) #[] #[],S l,S m] w (RetA λv w'=>w.grownBy w' (some b)∧Blk w' b 53 #[.bool false]∧v=S (showI (x+y))):=by
  have h:=do_ok (o:=addI l m) hB ht en222 (λW hW=>iAdd_ok _ _ W hW)
  subst hl hm
  rw[addI_Z fx fy fz]at h
  exact h
theorem wRed_ok (hB:Blk w b 53 #[.bool false])(ht:Tb w)(hl:l=showI x)(hm:m=showI y)(fx:Fz x)(fy:Fz y)(h0:y≠0):
    CL 26 #[pT b,S l,S m] w (RetA λv w'=>w.grownBy w' (some b)∧(∃q,Blk w' b 53 #[.bool q])∧v=.tuple #[.agg #[S (qR x y).1,S (qR x y).2],.int .i64 0]):=by
  have h:=red_ok hB ht l m
  subst hl hm
  rw[redW_spec fx.int fy.int,valZ_showI,valZ_showI,makeR_q h0]at h
  exact h
theorem wCk_ok (hB:Blk w b 53 #[.bool false])(ht:Tb w){x y:List UInt8}{A:Option Addr}{n c lo:Nat}(hr:Rw w lo A [S x,S y])(hn:1=n)(hAb:∀ad,A=some ad->ad.block≠b)(ho:okR (x,y)=true):
    CL 24 #[pT b,.slice A n c] w (RetA λv w'=>w.grownBy w' (some b)∧Blk w' b 53 #[.bool false]∧v=.tuple #[]):=by
  have h:=check_ok (rs:=[(x,y)]) (c:=c) hB ht hr hn om hAb
  rw[show ckB false [(x,y)]=false by simp[ckB,ho]]at h
  exact h
end
def rdI (N D t:Int)(up:Bool):Int:=if up=true∧¬showI (N*t%D)=[48]then N*t/D+1 else N*t/D
def Qv (a b:Int):Value:=.tuple #[.agg #[S (qR a b).1,S (qR a b).2],.int .i64 0]
theorem rd_1 {N D t:Int}{up:Bool}(h:up=true)(h0:¬showI (N*t%D)=[48]):Qv (N*t/D+1) t=Qv (rdI N D t up) t:=by unfold rdI;rw[if_pos ⟨h,h0⟩]
theorem rd_0 {N D t:Int}{up:Bool}(h0:showI (N*t%D)=[48]):Qv (N*t/D) t=Qv (rdI N D t up) t:=by unfold rdI;rw[if_neg (λe=>e.2 h0)]
theorem rd_d {N D t:Int}{up:Bool}(h:up=false):Qv (N*t/D) t=Qv (rdI N D t up) t:=by unfold rdI;rw[if_neg (λe=>by rw[h]at e;exact absurd e.1 dc)]
theorem fz_inc {N D:Int}(h:N.natAbs<10^199)(hd:0<D):Fz (N/D+1):=by
  have h1:Fz (N/D):=fz_div (by unfold Fz;omega) hd
  have h2:(N/D).natAbs<10^199:=by
    rcases Int.le_total 0 N with h0|h0
    · have h1:=Int.ediv_nonneg h0 (Int.le_of_lt hd)
      have h2:=Int.ediv_le_self (b:=D) h0
      omega
    · have h1:N/D<=0:=Int.ediv_nonpos_of_nonpos_of_neg h0 hd
      have h2:N<=N/D:=by
        refine Int.le_ediv_of_mul_le hd ?_
        have h7:0<=(-N)*(D-1):=Int.mul_nonneg om om
        rw[Int.neg_mul,Int.mul_sub,Int.mul_one]at h7
        omega
      omega
  unfold Fz;omega
theorem rMakeZ_ok {l m:List UInt8}{a b:Int}{w:World}(hl:l=showI a)(hm:m=showI b)(fa:Fz a)(fb:Fz b)(h0:b≠0)(ht:Tb w):
    CL 38 #[S l,S m] w (Ret w λv w'=>v=.tuple #[.agg #[S (qR a b).1,S (qR a b).2],.int .i64 0]):=by
 subst hl hm;have ib:(!isInt (showI b))=false:=by rw[fb.int];rfl
 refine f_in Tryz.func38 rfl ?_;refine go ?_;refine al inf36 (λ_ aoq r8=>?_);have ht:=Tb.ext aoq.2 ht;have kx:=aoq.2;refine go ?_;refine cl en102 (iValid_ok (showI a) _) ?_;rintro _ _ aon rfl;have ht:=Tb.ext aon.2 ht;have⟨r8,kx⟩:=be1 aon.2 r8 kx;refine go ?_;refine l_want (s:=10) rfl (congrArg Value.bool (congrArg Bool.not fa.int)) ?_;refine go ?_;refine l_want (s:=10) rfl (congrArg Value.bool (congrArg Bool.not fa.int)) ?_;refine cl en102 (iValid_ok (showI b) _) ?_;rintro _ sc aoo rfl;have ht:=Tb.ext aoo.2 ht;have⟨r8,kx⟩:=be1 aoo.2 r8 kx;refine l_want (s:=10) rfl (congrArg Value.bool (congrArg Bool.not fa.int)) ?_;refine go ?_;refine l_op (k_pick (t:=false) (v:=.bool (!(isInt (showI b)))) (congrArg Value.bool (congrArg Bool.not fa.int)) rfl ?_);refine l_op (k_build (vs:=[(0,.bool (!(isInt (showI b))))]) (cells:=#[.bool (!(isInt (showI b)))]) (pl:=[(0,1)]) U235 inf235 (by kernel_rfl) rfl (by kernel_rfl) ?_);refine bx (λaot aop aou=>?_);have ht:=Tb.ext aop.2 ht;have⟨r8,kx⟩:=be1 aop.2 r8 kx;refine go ?_;have aor:Blk aot (sc.heap.size) 53 #[.bool false]:=by have h:=aou;rw[ib]at h;exact h
 refine go ?_;refine l_op (k_callA (vs:=[pT sc.heap.size,S (showI a),S (showI b)]) en225 rfl (wRed_ok aor ht rfl rfl fa fb h0) ?_);rintro _ _ ⟨aol,⟨ao2,aos⟩,rfl⟩;have r8:=Blk.gr aol (by simp;omega) r8;have kx:=low_gr kx aol (bz kx) (λg hgg=>by cases hgg;omega);have ao3:=aol.size;refine go ?_;refine SA r8 (λ_ aom aov=>?_);have⟨aos,kx,_⟩:=pl1 aom aos kx;refine go ?_;refine f_out (v:=.tuple #[.agg #[S (qR a b).1,S (qR a b).2],.int .i64 0]) (res2 (r1:=.cell 4 25) (r2:=.tmp 5) rfl ?_ ?_) kx rfl;refine res_cellA (t:=4) (cs:=[S (qR a b).1,S (qR a b).2]) (b:=w.heap.size) (o:=0) U36 rfl sz36 ?_ ?_;exact rfl;exact Blk.cells aov (i:=0) rfl;exact res_tmp (t:=5) (by exact rfl) _
theorem fromZ_ok {n:Int}{w:World}(hn:In64 n)(ht:Tb w):
    CL 182 #[.int .i64 n] w (Ret w λv w'=>v=S (showI n)):=by
 have h1:-9223372036854775808<=n:=by unfold In64 at hn;omega
 have h2:n<=9223372036854775807:=by unfold In64 at hn;omega
 refine f_in Tryz.func182 rfl ?_;refine go ?_;refine cl en131 (cEq (Y:=S (showI n)) (itoa_ok _ _ h1 h2 (ht.ext (Ext.refl _))) (congrArg S (itoa_int n))) ?_;rintro _ _ kx rfl;have r8:=kx.2;refine go ?_;exact f_ret1 (t:=2) (v:=S (showI n)) rfl r8 rfl rfl
theorem fz64 {n:Int}(h:In64 n):Fz n:=by unfold In64 at h;unfold Fz;omega
theorem rOfZ_ok {a b:Int}{w:World}(ha:In64 a)(hb:In64 b)(h0:b≠0)(ht:Tb w):
    CL 166 #[.int .i64 a,.int .i64 b] w (Ret w λv w'=>v=.tuple #[.agg #[S (qR a b).1,S (qR a b).2],.int .i64 0]):=by
 refine f_in Tryz.func166 rfl ?_;refine go ?_;refine al inf36 (λ_ aoo r8=>?_);have kx:=aoo.2;refine go ?_;refine cl en1067 (fromZ_ok ha (ht.ext kx)) ?_;rintro _ _ sc rfl;have⟨r8,kx⟩:=be1 sc.2 r8 kx;refine go ?_;refine cl en1067 (fromZ_ok hb (ht.ext kx)) ?_;rintro _ _ aol rfl;have⟨r8,kx⟩:=be1 aol.2 r8 kx;refine cl en1046 (rMakeZ_ok rfl rfl (fz64 ha) (fz64 hb) h0 (ht.ext kx)) ?_;rintro _ _ aom rfl;have⟨r8,kx⟩:=be1 aom.2 r8 kx;refine go ?_;refine SA r8 (λ_ aon aop=>?_);have kx:=plw aon kx;have aoy:=psz aon;refine go ?_;refine f_out (v:=.tuple #[.agg #[S (qR a b).1,S (qR a b).2],.int .i64 0]) (res2 (r1:=.cell 4 25) (r2:=.tmp 5) rfl ?_ ?_) kx rfl;refine res_cellA (t:=4) (cs:=[S (qR a b).1,S (qR a b).2]) (b:=w.heap.size) (o:=0) U36 rfl sz36 ?_ ?_;exact rfl;exact Blk.cells aop (i:=0) rfl;exact res_tmp (t:=5) (by exact rfl) _
theorem rRound_ok {N D:Int}{pl:Nat}{up:Bool}{w:World}(ho:okR (showI N,showI D)=true)(fN:Fz N)(fD:Fz D)(hp:pl<=30)(hNT:(N*((10^pl:Nat):Int)).natAbs<10^199)(ht:Tb w):
    CL 188 #[.agg #[S (showI N),S (showI D)],.int .i64 pl,.bool up] w (Ret w λv w'=>v=Qv (rdI N D (((10^pl:Nat):Int)) up) (((10^pl:Nat):Int))):=by
 have h10:((10^pl:Nat):Int)≠0:=by have:=Nat.pow_pos (n:=pl) (show 0<10 by decide);omega
 have pD:0<D:=by have:=okR_pos ho;rwa [valZ_showI]at this
 have fNT:Fz (N*((10^pl:Nat):Int)):=(by unfold Fz;omega);have ao4:pl<200:=om;have fT:Fi (10^pl):=Nat.pow_lt_pow_right dc om;refine f_in Tryz.func188 rfl ?_;refine go ?_;refine bx (λaon ao9 r8=>?_);have ht:=Tb.ext ao9.2 ht;have kx:=ao9.2;refine al inf36 (λaol ao8 sc=>?_);have ht:=Tb.ext ao8.2 ht;have⟨r8,kx⟩:=be1 ao8.2 r8 kx;refine go ?_;refine l_op (k_build (vs:=[(0,.bool (decide (30<(pl:Int))))]) (cells:=#[.bool (decide (30<(pl:Int)))]) (pl:=[(0,1)]) U235 inf235 (by kernel_rfl) rfl (by kernel_rfl) ?_);refine bx (λapa ao5 apf=>?_);have ht:=Tb.ext ao5.2 ht;have⟨r8,sc,kx⟩:=be2 ao5.2 r8 sc kx;refine go ?_;have ao6:Blk apa (aol.heap.size) 53 #[.bool false]:=by have h:=apf;rw[decide_eq_false om]at h;exact h
 refine go ?_;refine BS (λ_ aoo _ apg=>?_);have ht:=Tb.ext aoo ht;have⟨r8,sc,ao6,kx⟩:=be3 aoo r8 sc ao6 kx;have apm:=bz aoo;refine l_op (k_callA (vs:=[pT aol.heap.size,.slice (some ⟨apa.heap.size,0,none⟩) 1 1]) en223 rfl (wCk_ok ao6 ht (Rw.of_own apg) rfl (λ_ e=>by cases e;simp;omega) ho) ?_);rintro _ _ ⟨aoq,aor,rfl⟩;have ht:=Tb.gr aoq ao6 dc ht;have r8:=Blk.gr aoq (by simp;omega) r8;have sc:=Blk.gr aoq (by simp;omega) sc;have kx:=low_gr kx aoq (bz kx) (λg hgg=>by cases hgg;omega);have apq:=aoq.size;refine go ?_;refine clb en132 (hc:=repeat_ok [48] pl _ om dc) (hk:=?_);rintro _ _ aos rfl;have ht:=Tb.ext aos.2 ht;have⟨r8,sc,aor,kx⟩:=be3 aos.2 r8 sc aor kx;refine l_op (k_addS (a:=[49]) (b:=Lib.repeatL [48] pl) rfl rfl (by rw[zeros_str];simp;omega) ?_);refine go ?_;refine l_op (k_callA (vs:=[pT aol.heap.size,S (showI N),S (([49])++(Lib.repeatL [48] pl))]) en224 rfl (wMul_ok aor ht rfl (one_str ao4) fN fT.z fNT) ?_);rintro _ _ ⟨aot,aou,rfl⟩;have ht:=Tb.gr aot aor dc ht;have r8:=Blk.gr aot (by simp;omega) r8;have sc:=Blk.gr aot (by simp;omega) sc;have kx:=low_gr kx aot (bz kx) (λg hgg=>by cases hgg;omega);have apv:=aot.size;refine go ?_;refine cl en83 (cEq (Y:=.tuple #[S (showI (N*(((10^pl:Nat):Int))/D)),S (showI (N*(((10^pl:Nat):Int))%D)),.int .i64 0]) (iDiv_ok _ _ _ ht) (congrArg resD (divI_Z fNT fD (Int.ne_of_gt pD) (fz_div fNT pD)))) ?_
 rintro _ _ aov rfl;have ht:=Tb.ext aov.2 ht;have⟨r8,sc,aou,kx⟩:=be3 aov.2 r8 sc aou kx;refine go ?_;refine SO aou (λ_ aow aop=>?_);have ht:=Tb.put aow aou dc ht;have⟨r8,sc,kx,_⟩:=pl2 aow r8 sc kx;refine go ?_;rcases Bool.eq_false_or_eq_true up with aom|aom;refine go ?_;refine nes (b:=[48]) ?_;refine go ?_;by_cases ao7:(showI (N*(((10^pl:Nat):Int))%D))=([48]);refine go ?_;refine l_op (k_callA (vs:=[pT aol.heap.size,S (showI (N*(((10^pl:Nat):Int))/D)),S (([49])++(Lib.repeatL [48] pl))]) en225 rfl (wRed_ok aop ht rfl (one_str ao4) (fz_div fNT pD) fT.z h10) ?_);rintro _ _ ⟨aox,⟨ap2,apb⟩,rfl⟩;have r8:=Blk.gr aox (by simp;omega) r8;have sc:=Blk.gr aox (by simp;omega) sc;have kx:=low_gr kx aox (bz kx) (λg hgg=>by cases hgg;omega);have ap3:=aox.size;refine go ?_;refine SA sc (λ_ aoy aph=>?_);have⟨r8,apb,kx,_⟩:=pl2 aoy r8 apb kx;refine go ?_;refine f_out (v:=.tuple #[.agg #[S ((qR (N*(((10^pl:Nat):Int))/D) (((10^pl:Nat):Int))).1),S ((qR (N*(((10^pl:Nat):Int))/D) (((10^pl:Nat):Int))).2)],.int .i64 0]) (res2 (r1:=.cell 6 25) (r2:=.tmp 7) rfl ?_ ?_) kx (rd_0 ao7)
 refine res_cellA (t:=6) (cs:=[S ((qR (N*(((10^pl:Nat):Int))/D) (((10^pl:Nat):Int))).1),S ((qR (N*(((10^pl:Nat):Int))/D) (((10^pl:Nat):Int))).2)]) (b:=aon.heap.size) (o:=0) U36 rfl sz36 ?_ ?_;exact rfl;exact Blk.cells aph (i:=0) rfl;exact res_tmp (t:=7) (by exact rfl) _;refine go ?_;refine l_op (k_callA (vs:=[pT aol.heap.size,.func (.func 40) #[] #[],S (showI (N*(((10^pl:Nat):Int))/D)),S ([49])]) en227 rfl (wAdd_ok aop ht rfl lit1 (fz_div fNT pD) (by unfold Fz;decide) (fz_inc hNT pD)) ?_);rintro _ _ ⟨aoz,apc,rfl⟩;have ht:=Tb.gr aoz aop dc ht;have r8:=Blk.gr aoz (by simp;omega) r8;have sc:=Blk.gr aoz (by simp;omega) sc;have kx:=low_gr kx aoz (bz kx) (λg hgg=>by cases hgg;omega);have ap8:=aoz.size;refine go ?_;refine l_op (k_callA (vs:=[pT aol.heap.size,S (showI (N*(((10^pl:Nat):Int))/D+1)),S (([49])++(Lib.repeatL [48] pl))]) en225 rfl (wRed_ok apc ht rfl (one_str ao4) (fz_inc hNT pD) fT.z h10) ?_);rintro _ _ ⟨ao0,⟨aqb,apd⟩,rfl⟩;have r8:=Blk.gr ao0 (by simp;omega) r8;have sc:=Blk.gr ao0 (by simp;omega) sc;have kx:=low_gr kx ao0 (bz kx) (λg hgg=>by cases hgg;omega);have aqc:=ao0.size;refine go ?_;refine SA sc (λ_ ao1 api=>?_);have⟨r8,apd,kx,_⟩:=pl2 ao1 r8 apd kx;refine go ?_
 refine f_out (v:=.tuple #[.agg #[S ((qR (N*(((10^pl:Nat):Int))/D+1) (((10^pl:Nat):Int))).1),S ((qR (N*(((10^pl:Nat):Int))/D+1) (((10^pl:Nat):Int))).2)],.int .i64 0]) (res2 (r1:=.cell 6 25) (r2:=.tmp 7) rfl ?_ ?_) kx (rd_1 aom ao7);refine res_cellA (t:=6) (cs:=[S ((qR (N*(((10^pl:Nat):Int))/D+1) (((10^pl:Nat):Int))).1),S ((qR (N*(((10^pl:Nat):Int))/D+1) (((10^pl:Nat):Int))).2)]) (b:=aon.heap.size) (o:=0) U36 rfl sz36 ?_ ?_;exact rfl;exact Blk.cells api (i:=0) rfl;exact res_tmp (t:=7) (by exact rfl) _;refine go ?_;refine l_op (k_callA (vs:=[pT aol.heap.size,S (showI (N*(((10^pl:Nat):Int))/D)),S (([49])++(Lib.repeatL [48] pl))]) en225 rfl (wRed_ok aop ht rfl (one_str ao4) (fz_div fNT pD) fT.z h10) ?_);rintro _ _ ⟨ao2,⟨aqh,ape⟩,rfl⟩;have r8:=Blk.gr ao2 (by simp;omega) r8;have sc:=Blk.gr ao2 (by simp;omega) sc;have kx:=low_gr kx ao2 (bz kx) (λg hgg=>by cases hgg;omega);have aqi:=ao2.size;refine go ?_;refine SA sc (λ_ ao3 apj=>?_);have⟨r8,ape,kx,_⟩:=pl2 ao3 r8 ape kx;refine go ?_;refine f_out (v:=.tuple #[.agg #[S ((qR (N*(((10^pl:Nat):Int))/D) (((10^pl:Nat):Int))).1),S ((qR (N*(((10^pl:Nat):Int))/D) (((10^pl:Nat):Int))).2)],.int .i64 0]) (res2 (r1:=.cell 6 25) (r2:=.tmp 7) rfl ?_ ?_) kx (rd_d aom)
 refine res_cellA (t:=6) (cs:=[S ((qR (N*(((10^pl:Nat):Int))/D) (((10^pl:Nat):Int))).1),S ((qR (N*(((10^pl:Nat):Int))/D) (((10^pl:Nat):Int))).2)]) (b:=aon.heap.size) (o:=0) U36 rfl sz36 ?_ ?_;exact rfl;exact Blk.cells apj (i:=0) rfl;exact res_tmp (t:=7) (by exact rfl) _
theorem rDown_ok {N D:Int}{pl:Nat}{w:World}(ho:okR (showI N,showI D)=true)(fN:Fz N)(fD:Fz D)(hp:pl<=30)(hNT:(N*((10^pl:Nat):Int)).natAbs<10^199)(ht:Tb w):
    CL 159 #[.agg #[S (showI N),S (showI D)],.int .i64 pl] w (Ret w λv w'=>v=.tuple #[.agg #[S ((qR (rdI N D (((10^pl:Nat):Int)) false) (((10^pl:Nat):Int))).1),S ((qR (rdI N D (((10^pl:Nat):Int)) false) (((10^pl:Nat):Int))).2)],.int .i64 0]):=by
 refine f_in Tryz.func159 rfl ?_;refine go ?_;refine bx (λaon aop r8=>?_);have kx:=aop.2;refine al inf36 (λ_ aoo sc=>?_);have⟨r8,kx⟩:=be1 aoo.2 r8 kx;refine go ?_;refine cl en1129 (rRound_ok ho fN fD hp hNT (ht.ext kx)) ?_;rintro _ _ aol rfl;have⟨r8,sc,kx⟩:=be2 aol.2 r8 sc kx;refine go ?_;refine SA sc (λ_ aom aoq=>?_);have⟨r8,kx,_⟩:=pl1 aom r8 kx;refine go ?_;refine f_out (v:=.tuple #[.agg #[S ((qR (rdI N D (((10^pl:Nat):Int)) false) (((10^pl:Nat):Int))).1),S ((qR (rdI N D (((10^pl:Nat):Int)) false) (((10^pl:Nat):Int))).2)],.int .i64 0]) (res2 (r1:=.cell 4 25) (r2:=.tmp 5) rfl ?_ ?_) kx rfl;refine res_cellA (t:=4) (cs:=[S ((qR (rdI N D (((10^pl:Nat):Int)) false) (((10^pl:Nat):Int))).1),S ((qR (rdI N D (((10^pl:Nat):Int)) false) (((10^pl:Nat):Int))).2)]) (b:=aon.heap.size) (o:=0) U36 rfl sz36 ?_ ?_;exact rfl;exact Blk.cells aoq (i:=0) rfl;exact res_tmp (t:=5) (by exact rfl) _
theorem rUp_ok {N D:Int}{pl:Nat}{w:World}(ho:okR (showI N,showI D)=true)(fN:Fz N)(fD:Fz D)(hp:pl<=30)(hNT:(N*((10^pl:Nat):Int)).natAbs<10^199)(ht:Tb w):
    CL 160 #[.agg #[S (showI N),S (showI D)],.int .i64 pl] w (Ret w λv w'=>v=.tuple #[.agg #[S ((qR (rdI N D (((10^pl:Nat):Int)) true) (((10^pl:Nat):Int))).1),S ((qR (rdI N D (((10^pl:Nat):Int)) true) (((10^pl:Nat):Int))).2)],.int .i64 0]):=by
 refine f_in Tryz.func160 rfl ?_;refine go ?_;refine bx (λaon aop r8=>?_);have kx:=aop.2;refine al inf36 (λ_ aoo sc=>?_);have⟨r8,kx⟩:=be1 aoo.2 r8 kx;refine go ?_;refine cl en1129 (rRound_ok ho fN fD hp hNT (ht.ext kx)) ?_;rintro _ _ aol rfl;have⟨r8,sc,kx⟩:=be2 aol.2 r8 sc kx;refine go ?_;refine SA sc (λ_ aom aoq=>?_);have⟨r8,kx,_⟩:=pl1 aom r8 kx;refine go ?_;refine f_out (v:=.tuple #[.agg #[S ((qR (rdI N D (((10^pl:Nat):Int)) true) (((10^pl:Nat):Int))).1),S ((qR (rdI N D (((10^pl:Nat):Int)) true) (((10^pl:Nat):Int))).2)],.int .i64 0]) (res2 (r1:=.cell 4 25) (r2:=.tmp 5) rfl ?_ ?_) kx rfl;refine res_cellA (t:=4) (cs:=[S ((qR (rdI N D (((10^pl:Nat):Int)) true) (((10^pl:Nat):Int))).1),S ((qR (rdI N D (((10^pl:Nat):Int)) true) (((10^pl:Nat):Int))).2)]) (b:=aon.heap.size) (o:=0) U36 rfl sz36 ?_ ?_;exact rfl;exact Blk.cells aoq (i:=0) rfl;exact res_tmp (t:=5) (by exact rfl) _
end Go.Proofs.YtinldhphnpflaaaGreatDoor
