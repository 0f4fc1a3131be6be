/- Part of the proof of a statement about decisions. -/
import Derived.Test.YtonigegpknhdnaaGreatDoorRat1ToSp2
import Derived.Test.YtonigegpknhdnaaGreatDoorEngPToEngH
import Derived.Test.YtonigegpknhdnaaGreatDoorInt9ToRatS
set_option linter.all false
namespace Go.Proofs.YtonigegpknhdnaaGreatDoor
open Go Go.Eng Go.RowKit
attribute [local irreducible] wpListIn Code.wpIn Oper.wpIn Exit.then Exit.inBlock Exit.noGoto
set_option maxHeartbeats 40000000
theorem bk_last {T:Nat→N2}{m k:Nat}(h:SumR T m)(hk:k≤m) : Bk 99 (lstP T k):=by
  cases k with
  | zero=>exact ⟨by simp [lstP],by simp [lstP]⟩
  | succ p=>exact (h.bd p om).mono dc
set_option maxRecDepth 100000 in
theorem sum_ok {T : Nat → N2} {m gn b1 b2 sO pl : Nat} {lbn : Array Value} {w : World} (hR : SumR T m) (hS : Sc sO) (hB1 : Blk w b1 164 #[S (nS (T 0).1), S (nS (T 0).2)]) (hB2 : Blk w b2 195 #[fv gn lbn]) (hen : Enters Tryz.prog gn) (hn : ∀ k < m, ∀ W, Ext w W → Calls Tryz.prog gn (#[vN (T k), .int .i64 ((k + 1 : Nat) : Int)] ++ lbn) W (Ret W fun v _ => v = vN (T (k + 1)))) (ht : Tb w) :
    Calls Tryz.prog 173 #[.agg #[.int .i64 pl,S (nS sO)],.func (.func 205) #[] #[.pointer (some ⟨b1,0,none⟩),.pointer (some ⟨b2,0,none⟩)]] w (Ret w fun v w'=>v=.agg #[S (nS ((resP T m).1)),S (nS ((resP T m).2))]):=by
 refine f_inM Tryz.func173 rfl ?_;refine go ?_;refine bx (fun apm aqu aqd=>?_);have r8:=aqu.2;refine al inf1056 (fun ap3 aqk aqv=>?_);have ⟨aqd,r8⟩:=be1 aqk.2 aqd r8;refine go ?_;have aqa:=Ext.drew ap3
 refine c_st2 hmix 7 (fun e0 ls e W=>∃ aom:Nat,∃ aon:Nat,∃ aoo:Nat,(∀ t,inB [5,6,7,10,11,12,13] t=false→e t=e0 t)∧(Ext w W)∧(ap3.heap.size≤W.heap.size)∧(ls 0=true→e 10=.agg #[.int .i64 pl,S (nS sO)])∧(ls 1=true→e 11=.agg #[S (nS 0),S (nS 0)])∧(ls 2=true→e 12=.agg #[.int .i64 pl,S (nS sO)])∧(ls 3=true→e 13=.agg #[S (nS 0),S (nS 0)])∧(ls 4=true→e 5=.pointer (some ⟨aom,0,none⟩))∧(ls 5=true→e 6=.pointer (some ⟨aon,0,none⟩))∧(ls 6=true→e 7=.pointer (some ⟨aoo,0,none⟩))∧(ls 4=true→ap3.heap.size≤aom)∧(ls 5=true→ap3.heap.size≤aon)∧(ls 6=true→ap3.heap.size≤aoo)∧(ls 4=true→ls 5=true→aom≠aon)∧(ls 4=true→ls 6=true→aom≠aoo)∧(ls 5=true→ls 6=true→aon≠aoo)∧(Blk W (w.heap.size) 105 #[.int .i64 pl,S (nS sO)])∧(Blk W (apm.heap.size) 164 #[S ([]),S ([])])∧(ls 4=true→Blk W aom 164 #[S ([]),S ([])])∧(ls 5=true→Blk W aon 164 #[S ([]),S ([])])∧(ls 6=true→Blk W aoo 4 #[.bool false])) ⟨0,0,0,(fun _ _=>rfl),(xt r8 aqa),(bz aqa),(ff rfl),(ff rfl),(ff rfl),(ff rfl),(ff rfl),(ff rfl),(ff rfl),(ff rfl),(ff rfl),(ff rfl),(fun h _=>ff rfl h),(fun h _=>ff rfl h),(fun h _=>ff rfl h),(be aqa aqd),(be aqa aqv),(fun h =>ff rfl h),(fun h =>ff rfl h),(fun h =>ff rfl h)⟩ (by kernel_rfl) (by kernel_rfl) ?_ ?_;refine ⟨fun asx _ aql aqw aqm aqx _=>?_,?_⟩
 obtain ⟨aom,aon,aoo,aqn,r8,zst,aou,aov,aow,aox,aoy,aoz,ao0,ao1,ao2,ao3,ao4,ao5,ao6,sc,aol,aor,aos,aot⟩:=aqw;obtain ⟨asx,rfl⟩:=ovE aqn;have aqy:aql 1=false:=(unl aqm (i:=0) (j:=1) rfl aqx);have as0:aql 3=false:=(unl aqm (i:=1) (j:=3) rfl aqy);have as1:=bz r8;refine go ?_;exact ⟨rfl,_,(act_put _ _ _ _ _).symm,aom,aon,aoo,(same_upd rfl aqn),r8,om,(fun _=>rfl),aov,aow,aox,aoy,aoz,ao0,ao1,ao2,ao3,ao4,ao5,ao6,(sc),(aol),(fun aqz=>aor aqz),(fun aq0=>aos aq0),(fun aq1=>aot aq1)⟩;refine ⟨fun aq2 _ aqo aq3 aq4 aq5 aq6=>?_,?_⟩;obtain ⟨aom,aon,aoo,aq7,r8,zst,aou,aov,aow,aox,aoy,aoz,ao0,ao1,ao2,ao3,ao4,ao5,ao6,sc,aol,aor,aos,aot⟩:=aq3;obtain ⟨aq2,rfl⟩:=ovE aq7;have aq8:aqo 0=true:=(aq6 0 rfl);have as3:aqo 3=false:=(unl aq4 (i:=1) (j:=3) rfl aq5);have aq9:aq2 10=.agg #[.int .i64 pl,S (nS sO)]:=aou aq8;have as4:=bz r8;have ap4:=bt sc;have ap5:=bt aol;refine cl en1030 (spWhole0_ok hS (ht.ext r8)) ?_ (cons_eq aq9 (cons_eq rfl rfl));rintro _ _ apt rfl;have ⟨sc,aol,r8⟩:=be2 apt.2 sc aol r8;refine go ?_;exact ⟨rfl,_,(act_put _ _ _ _ _).symm,aom,aon,aoo,(same_upd rfl aq7),r8,om,aou,(fun _=>rfl),aow,aox,aoy,aoz,ao0,ao1,ao2,ao3,ao4,ao5,ao6,(sc),(aol),(fun ara=>(be apt.2 (aor ara))),(fun arb=>(be apt.2 (aos arb))),(fun arc=>(be apt.2 (aot arc)))⟩;refine ⟨fun as7 _ ard arf arh ari _=>?_,?_⟩
 obtain ⟨aom,aon,aoo,aqp,r8,zst,aou,aov,aow,aox,aoy,aoz,ao0,ao1,ao2,ao3,ao4,ao5,ao6,sc,aol,aor,aos,aot⟩:=arf;obtain ⟨as7,rfl⟩:=ovE aqp;have ata:ard 3=false:=(unl arh (i:=2) (j:=3) rfl ari);have atb:=bz r8;refine go ?_;exact ⟨rfl,_,(act_put _ _ _ _ _).symm,aom,aon,aoo,(same_upd rfl aqp),r8,om,aou,aov,(fun _=>rfl),aox,aoy,aoz,ao0,ao1,ao2,ao3,ao4,ao5,ao6,(sc),(aol),(fun arj=>aor arj),(fun ark=>aos ark),(fun arl=>aot arl)⟩;refine ⟨fun arm _ aqe arn aro _ aqq=>?_,?_⟩;obtain ⟨aom,aon,aoo,arp,r8,zst,aou,aov,aow,aox,aoy,aoz,ao0,ao1,ao2,ao3,ao4,ao5,ao6,sc,aol,aor,aos,aot⟩:=arn;obtain ⟨arm,rfl⟩:=ovE arp;have arq:aqe 1=true:=(aqq 1 rfl);have ate:aqe 0=true:=(aro 1 0 rfl arq);have arr:aqe 2=true:=(aqq 2 rfl);have ars:arm 12=.agg #[.int .i64 pl,S (nS sO)]:=aow arr;have atf:=bz r8;have ap4:=bt sc;have ap5:=bt aol;refine cl en1030 (spWhole0_ok hS (ht.ext r8)) ?_ (cons_eq ars (cons_eq rfl rfl));rintro _ _ apu rfl;have ⟨sc,aol,r8⟩:=be2 apu.2 sc aol r8;refine go ?_;exact ⟨rfl,_,(act_put _ _ _ _ _).symm,aom,aon,aoo,(same_upd rfl arp),r8,om,aou,aov,aow,(fun _=>rfl),aoy,aoz,ao0,ao1,ao2,ao3,ao4,ao5,ao6,(sc),(aol),(fun art=>(be apu.2 (aor art))),(fun aru=>(be apu.2 (aos aru))),(fun arv=>(be apu.2 (aot arv)))⟩;refine ⟨fun ati arw _ arx _ _ _=>?_,?_⟩
 obtain ⟨aom,aon,aoo,ary,r8,zst,aou,aov,aow,aox,aoy,aoz,ao0,ao1,ao2,ao3,ao4,ao5,ao6,sc,aol,aor,aos,aot⟩:=arx;obtain ⟨ati,rfl⟩:=ovE ary;have atn:=bz r8;have ap4:=bt sc;have ap5:=bt aol;refine al inf1056 (fun _ ap6 arz=>?_);have ⟨sc,aol,r8⟩:=be2 ap6.2 sc aol r8;refine go ?_;exact ⟨rfl,_,(act_put _ _ _ _ _).symm,arw.heap.size,aon,aoo,(same_upd rfl ary),r8,om,aou,aov,aow,aox,(fun _=>rfl),aoz,ao0,(fun _=>om),ao2,ao3,(fun _ ar0=>(by have:=bt (aos ar0); omega)),(fun _ ar1=>(by have:=bt (aot ar1); omega)),ao6,(sc),(aol),(fun _=>arz),(fun ar2=>(be ap6.2 (aos ar2))),(fun ar3=>(be ap6.2 (aot ar3)))⟩;refine ⟨fun atq ar4 _ ar5 _ _ _=>?_,?_⟩;obtain ⟨aom,aon,aoo,ar6,r8,zst,aou,aov,aow,aox,aoy,aoz,ao0,ao1,ao2,ao3,ao4,ao5,ao6,sc,aol,aor,aos,aot⟩:=ar5;obtain ⟨atq,rfl⟩:=ovE ar6;have atw:=bz r8;have ap4:=bt sc;have ap5:=bt aol;refine al inf1056 (fun _ ap7 ar7=>?_);have ⟨sc,aol,r8⟩:=be2 ap7.2 sc aol r8;refine go ?_;exact ⟨rfl,_,(act_put _ _ _ _ _).symm,aom,ar4.heap.size,aoo,(same_upd rfl ar6),r8,om,aou,aov,aow,aox,aoy,(fun _=>rfl),ao0,ao1,(fun _=>om),ao3,(fun ar8 _=>(by have:=bt (aor ar8); omega)),ao5,(fun _ ar9=>(by have:=bt (aot ar9); omega)),(sc),(aol),(fun asa=>(be ap7.2 (aor asa))),(fun _=>ar7),(fun asb=>(be ap7.2 (aot asb)))⟩;refine ⟨fun atz asc _ asd _ _ _=>?_,?_⟩
 obtain ⟨aom,aon,aoo,ase,r8,zst,aou,aov,aow,aox,aoy,aoz,ao0,ao1,ao2,ao3,ao4,ao5,ao6,sc,aol,aor,aos,aot⟩:=asd;obtain ⟨atz,rfl⟩:=ovE ase;have at4:=bz r8;have ap4:=bt sc;have ap5:=bt aol;refine al inf4 (fun _ ap8 asf=>?_);have ⟨sc,aol,r8⟩:=be2 ap8.2 sc aol r8;refine go ?_;exact ⟨rfl,_,(act_put _ _ _ _ _).symm,aom,aon,asc.heap.size,(same_upd rfl ase),r8,om,aou,aov,aow,aox,aoy,aoz,(fun _=>rfl),ao1,ao2,(fun _=>om),ao4,(fun asg _=>(by have:=bt (aor asg); omega)),(fun ash _=>(by have:=bt (aos ash); omega)),(sc),(aol),(fun asi=>(be ap8.2 (aor asi))),(fun asj=>(be ap8.2 (aos asj))),(fun _=>asf)⟩;exact trivial;intro aph _ _ aoq ask;obtain ⟨aom,aon,aoo,aqf,r8,zst,aou,aov,aow,aox,aoy,aoz,ao0,ao1,ao2,ao3,ao4,ao5,ao6,sc,aol,aor,aos,aot⟩:=ask;obtain ⟨aph,rfl⟩:=ovE aqf;have at9:=bz r8;have aua:=ao1 (aoq 4 rfl);have aub:=ao2 (aoq 5 rfl);have auc:=ao3 (aoq 6 rfl);have aud:=ao4 (aoq 4 rfl) (aoq 5 rfl);have aue:=ao5 (aoq 4 rfl) (aoq 6 rfl);have auf:=ao6 (aoq 5 rfl) (aoq 6 rfl);have ap4:=bt sc;have ap5:=bt aol;have aqr:=aor (aoq 4 rfl);have aug:=bt aqr;have aqb:=aos (aoq 5 rfl);have auh:=bt aqb;have apv:=aot (aoq 6 rfl);have aui:=bt apv;have apw:aph 5=.pointer (some ⟨aom,0,none⟩):=(aoy (aoq 4 rfl));have asl:aph 11=.agg #[S (nS 0),S (nS 0)]:=(aov (aoq 1 rfl));refine SA aqr (fun _ apx ao7=>?_)
 have ⟨sc,aol,aqb,apv,r8,_⟩:=pl4 apx sc aol aqb apv r8;have aqg:aph 6=.pointer (some ⟨aon,0,none⟩):=(aoz (aoq 5 rfl));have asm:aph 13=.agg #[S (nS 0),S (nS 0)]:=(aox (aoq 3 rfl));refine SA aqb (fun _ apy api=>?_);have ⟨sc,aol,ao7,apv,r8,_⟩:=pl4 apy sc aol ao7 apv r8;have aqh:aph 7=.pointer (some ⟨aoo,0,none⟩):=(ao0 (aoq 6 rfl));refine SO apv (fun ap9 apz ap0=>?_);have ⟨sc,aol,ao7,api,r8,_⟩:=pl4 apz sc aol ao7 api r8;refine go ?_;refine l_op (k_makeFunc (vf:=[]) (vc:=[.pointer (some ⟨aoo,0,none⟩),.pointer (some ⟨aon,0,none⟩)]) rfl (cons_eq aqh (cons_eq aqg rfl)) ?_);refine al inf1136 (fun _ ap1 aso=>?_);have ⟨sc,aol,ao7,api,ap0,r8⟩:=be5 ap1.2 sc aol ao7 api ap0 r8;refine SO aso (fun aqc apn aqs=>?_);have ⟨sc,aol,ao7,api,ap0,r8,_⟩:=pl5 apn sc aol ao7 api ap0 r8;refine go ?_;have auq:=bt ao7;have aur:=bt api;have aus:=bt ap0;have aut:=bt sc;have auu:=bt aol;have auv:=bt aqs
 refine c_rangeM (M:=m+1) (enc:=fun k=>[vN (T k)]) (bs:=[aom,aon,aoo]) (Kq:=fun W=>Ext w W) (gf:=205) (lb:=[.pointer (some ⟨b1,0,none⟩),.pointer (some ⟨b2,0,none⟩)]) (ps:=[16]) rfl en1113 (terms_iter (T:=T) (m:=m) r8 hB1 hB2 ?hbs hen (by have:=hR.lt; omega) hn) ⟨fun kx E=>xt E kx,fun kx hb E=>plw kx E⟩ (fun _=>rfl) (fun k W=>k≤m∧aqc.heap.size≤W.heap.size∧(Ext w W)∧(Blk W aom 164 #[S (nS ((totP T k).1)),S (nS ((totP T k).2))])∧(Blk W aon 164 #[S (nS ((lstP T k).1)),S (nS ((lstP T k).2))])∧(Blk W aoo 4 #[.bool (decide (k≠0))])∧(Blk W (w.heap.size) 105 #[.int .i64 pl,S (nS sO)])∧(Blk W (apm.heap.size) 164 #[S ([]),S ([])])∧(Blk W (ap9.heap.size) 231 #[.func (.func 204) #[] #[.pointer (some ⟨aoo,0,none⟩),.pointer (some ⟨aon,0,none⟩)]])) (fun c k W=>c=.exit 0∧aqc.heap.size≤W.heap.size∧(Ext w W)∧(Blk W aom 164 #[S (nS ((resP T m).1)),S (nS ((resP T m).2))])∧(Blk W (w.heap.size) 105 #[.int .i64 pl,S (nS sO)])∧(Blk W (apm.heap.size) 164 #[S ([]),S ([])])∧(Blk W (ap9.heap.size) 231 #[.func (.func 204) #[] #[.pointer (some ⟨aoo,0,none⟩),.pointer (some ⟨aon,0,none⟩)]])) (fun k=>⟨fun kx ⟨q1,zl,E,h0,h1,h2,h3,h4,h5⟩=>⟨q1,Nat.le_trans zl (bz kx),xt E kx,be kx h0,be kx h1,be kx h2,be kx h3,be kx h4,be kx h5⟩,fun kx hb ⟨q1,zl,E,h0,h1,h2,h3,h4,h5⟩=>⟨q1,(by rw [kx.size]; exact zl),plw kx E,pb kx h0,pb kx h1,pb kx h2,pb kx h3,pb kx h4,pb kx h5⟩⟩) (fun c k=>⟨fun kx ⟨q1,zl,E,h0,h1,h2,h3⟩=>⟨q1,Nat.le_trans zl (bz kx),xt E kx,be kx h0,be kx h1,be kx h2,be kx h3⟩,fun kx hb ⟨q1,zl,E,h0,h1,h2,h3⟩=>⟨q1,(by rw [kx.size]; exact zl),plw kx E,pb kx h0,pb kx h1,pb kx h2,pb kx h3⟩⟩) (fun k W h=>by have:=h.1; omega) ?h0 (fun e k e' W=>∃ nb:Nat,e'=upd (updL e [16] [vN (T k)]) 9 (.pointer (some ⟨nb,0,none⟩))∧aqc.heap.size≤nb∧Blk W nb 164 #[S (nS (T k).1),S (nS (T k).2)]∧(fun k W=>k≤m∧aqc.heap.size≤W.heap.size∧(Ext w W)∧(Blk W aom 164 #[S (nS ((totP T k).1)),S (nS ((totP T k).2))])∧(Blk W aon 164 #[S (nS ((lstP T k).1)),S (nS ((lstP T k).2))])∧(Blk W aoo 4 #[.bool (decide (k≠0))])∧(Blk W (w.heap.size) 105 #[.int .i64 pl,S (nS sO)])∧(Blk W (apm.heap.size) 164 #[S ([]),S ([])])∧(Blk W (ap9.heap.size) 231 #[.func (.func 204) #[] #[.pointer (some ⟨aoo,0,none⟩),.pointer (some ⟨aon,0,none⟩)]])) k W) ?hA ?asn ?body ?stop
 case hbs =>
  intro b hb;simp only [List.mem_cons,List.not_mem_nil,or_false] at hb;rcases hb with rfl | rfl | rfl <;> constructor <;> omega
 case h0 =>
  exact ⟨Nat.zero_le _,Nat.le_refl _,r8,ao7,api,ap0,sc,aol,aqs⟩
 case hA =>
  rintro k e' W b r r' hb hl ⟨nb,he,hnb,hbn,q1,zl,E,h0,h1,h2,h3,h4,h5⟩;have kx:=put_putObj W b (.loop r');have hne : ∀ {c t cs},Blk W c t cs→c≠b:=fun h e=>by subst e; unfold Blk at h; rw [hl] at h; cases h
  exact ⟨nb,he,hnb,Put.blk kx (hne hbn) hbn,q1,(by rw [kx.size]; exact zl),plw kx E,Put.blk kx (hne h0) h0,Put.blk kx (hne h1) h1,Put.blk kx (hne h2) h2,Put.blk kx (hne h3) h3,Put.blk kx (hne h4) h4,Put.blk kx (hne h5) h5⟩
 case asn =>
  rintro l k W K ⟨q1,zl,E,h0,h1,h2,h3,h4,h5⟩ hK;have EW:=Ext.refl W;refine go ?_;refine al inf1056 (fun _ apj asq=>?_);have h0:=be apj.2 h0;have h1:=be apj.2 h1;have h2:=be apj.2 h2;have h3:=be apj.2 h3;have h4:=be apj.2 h4;have h5:=be apj.2 h5;have E:=xt E apj.2;have EW:=xt EW apj.2;refine SA asq (fun _ ao8 asr=>?_);have h0:=pb ao8 h0;have h1:=pb ao8 h1;have h2:=pb ao8 h2;have h3:=pb ao8 h3;have h4:=pb ao8 h4;have h5:=pb ao8 h5;have E:=plw ao8 E;have auy:=psz ao8;have EW:=plw ao8 EW;refine go ?_;exact hK _ _ EW ⟨_,rfl,om,asr,q1,(by have:=bz EW; omega),E,h0,h1,h2,h3,h4,h5⟩
 case body =>
  rintro l k e' W ⟨nb,rfl,hnb,hbn,q1,zl,E,h0,h1,h2,h3,h4,h5⟩;have Kp:=Keeps.refl [aom,aon,aoo] W;have zW:=bz E;have hkm:=q1;have znb:=bt hbn;have hc0:=Blk.isCells h0;have hc1:=Blk.isCells h1;have hc2:=Blk.isCells h2;have fT1:Bk 99 (plP (totP T k) (T k)):=hR.tot (k:=k+1) om;refine go ?_;refine clb en1078 (hc:=spPlus_ok (fT1.fi dc).1 (fT1.fi dc).2 (ht.ext E)) (hk:=?_);rintro _ _ ao9 rfl;have h0:=be ao9.2 h0;have h1:=be ao9.2 h1;have h2:=be ao9.2 h2;have h3:=be ao9.2 h3;have h4:=be ao9.2 h4;have h5:=be ao9.2 h5;have hbn:=be ao9.2 hbn;have E:=xt E ao9.2;have Kp:=Keeps.ext Kp ao9.2;refine SA h0 (fun _ apa aop=>?_);have h1:=pb apa h1;have h2:=pb apa h2;have h3:=pb apa h3;have h4:=pb apa h4;have h5:=pb apa h5;have hbn:=pb apa hbn;have E:=plw apa E;have Kp:=Keeps.put Kp apa (by first | exact Or.inr om | exact Or.inl (by simp));have au2:=psz apa;refine go ?_;refine l_op (clV (vs:=[.agg #[S (nS ((T k).1)),S (nS ((T k).2))]]) (lb:=[.pointer (some ⟨aoo,0,none⟩),.pointer (some ⟨aon,0,none⟩)]) en1112 rfl rfl (cB (last_ok h2 h1 ((hR.bd k hkm).mono dc) (bk_last hR hkm) (ht.ext E)) (hR.last hkm)) ?_);rintro _ _ apb rfl;have aop:=be apb.2 aop;have h1:=be apb.2 h1;have h2:=be apb.2 h2
  have h3:=be apb.2 h3;have h4:=be apb.2 h4;have h5:=be apb.2 h5;have hbn:=be apb.2 hbn;have E:=xt E apb.2;have Kp:=Keeps.ext Kp apb.2;refine go ?_;by_cases aqi:k=m;refine go ?_;refine c_an 5 ?_;refine sf ?_;refine sf_ae (V:=S (nS (((T k).2)+4))) (fun _ _ apk _=>?_) ?_;refine clb en1045 (hc:=nAdd_ok rfl lit4 (by have:=fT1.2; have:=(hR.bd k hkm).2; simp only [plP] at *; unfold Fi; omega) (ht.ext (xt E apk))) (hk:=?_);rintro _ _ apl rfl;have ast:=apl.2;refine go ?_;exact fs ⟨ast,rfl⟩;refine sf ?_;intro _ _ apc _;have aop:=be apc.2 aop;have h1:=be apc.2 h1;have h2:=be apc.2 h2;have h3:=be apc.2 h3;have h4:=be apc.2 h4;have h5:=be apc.2 h5;have hbn:=be apc.2 hbn;have E:=xt E apc.2;have Kp:=Keeps.ext Kp apc.2;refine clb en1045 (hc:=nAdd_ok rfl rfl (by have:=fT1.2; have:=(hR.bd k hkm).2; simp only [plP] at *; unfold Fi; omega) (ht.ext E)) (hk:=?_);rintro _ _ apd rfl;have aop:=be apd.2 aop;have h1:=be apd.2 h1;have h2:=be apd.2 h2;have h3:=be apd.2 h3;have h4:=be apd.2 h4;have h5:=be apd.2 h5;have hbn:=be apd.2 hbn;have E:=xt E apd.2;have Kp:=Keeps.ext Kp apd.2;refine go ?_;refine SO aop (fun _ ape asu=>?_);have h1:=pb ape h1;have h2:=pb ape h2;have h3:=pb ape h3;have h4:=pb ape h4;have h5:=pb ape h5
  have hbn:=pb ape hbn;have E:=plw ape E;have Kp:=Keeps.put Kp ape (by first | exact Or.inr om | exact Or.inl (by simp));have avs:=psz ape;refine go ?_;exact ⟨Kp.others (by intro b hb; simp only [List.mem_cons,List.not_mem_nil,or_false] at hb; rcases hb with rfl | rfl | rfl; exact hc0; exact hc1; exact hc2),rfl,(by have:=Kp.size; omega),E,(by subst aqi; exact asu),h3,h4,h5⟩;refine go ?_;refine SA h1 (fun _ apf aqj=>?_);have aop:=pb apf aop;have h2:=pb apf h2;have h3:=pb apf h3;have h4:=pb apf h4;have h5:=pb apf h5;have hbn:=pb apf hbn;have E:=plw apf E;have Kp:=Keeps.put Kp apf (by first | exact Or.inr om | exact Or.inl (by simp));have avu:=psz apf;refine SO h2 (fun _ apg asv=>?_);have aop:=pb apg aop;have aqj:=pb apg aqj;have h3:=pb apg h3;have h4:=pb apg h4;have h5:=pb apg h5;have hbn:=pb apg hbn;have E:=plw apg E;have Kp:=Keeps.put Kp apg (by first | exact Or.inr om | exact Or.inl (by simp));have avw:=psz apg;refine go ?_;exact ⟨Kp.others (by intro b hb; simp only [List.mem_cons,List.not_mem_nil,or_false] at hb; rcases hb with rfl | rfl | rfl; exact hc0; exact hc1; exact hc2),KpC.of Kp,fun _=>E,om,(by have:=Kp.size; omega),E,aop,aqj,(by rw [decide_eq_true om]; exact asv),h3,h4,h5⟩
 case stop =>
  rintro D c k W hD ⟨rfl,zl,E,h0,h1,h2,h3⟩ hK;have zW:=bz E;refine go ?_;refine SA h2 (fun _ ap2 asw=>?_);have h0:=pb ap2 h0;have h1:=pb ap2 h1;have h3:=pb ap2 h3;have hK:=Dfr.put ap2 (hK.ne h2) hK;have E:=plw ap2 E;have avy:=psz ap2;refine go ?_;refine f_outM (v:=.agg #[S (nS ((resP T m).1)),S (nS ((resP T m).2))]) hK (res1  rfl ?_) ((put_dfr _).low E om) rfl;refine res_cellA (t:=4) (cs:=[S (nS ((resP T m).1)),S (nS ((resP T m).2))]) (b:=apm.heap.size) (o:=0) U1056 rfl sz1056 ?_ ?_;exact rfl;exact Blk.cells (asw.dfr hK) (i:=0) rfl
set_option maxRecDepth 100000
theorem cP {f:FuncId}{a:Array Value}{w:World}{p q:N2}(h:Calls Tryz.prog f a w (Ret w fun v _=>v=.agg #[S (nS p.1),S (nS p.2)]))(e:p=q) : Calls Tryz.prog f a w (Ret w fun v _=>v=.agg #[S (nS q.1),S (nS q.2)]):=e ▸ h
theorem cmp_gt0 {a b:Nat}(h:b<a) : 0<cmpI (a:Int) (b:Int):=by rw [cmpI_gt om]; decide
theorem cmp_gt1 {a b:Nat}(h:¬ b<a) : ¬ 0<cmpI (a:Int) (b:Int):=by have:=(cmpI_nonpos (x:=(a:Int)) (y:=(b:Int))).2 om; omega
theorem exp1_ok {sO pl n b1 b2:Nat}{t x:N2}{w:World}(hS:Sc sO)(hb1:Blk w b1 105 #[.int .i64 pl,S (nS sO)])(hb2:Blk w b2 164 #[S (nS x.1),S (nS x.2)])(htb:Bk 95 t)(hx:Bk 95 x)(h0:0<n)(hn:n<100000)(ht:Tb w) :
    Calls Tryz.prog 206 #[.agg #[S (nS t.1),S (nS t.2)],.int .i64 n,.pointer (some ⟨b1,0,none⟩),.pointer (some ⟨b2,0,none⟩)] w (Ret w fun v w'=>v=.agg #[S (nS ((expN sO x n t).1)),S (nS ((expN sO x n t).2))]):=by
 have zb1:=bt hb1;have zb2:=bt hb2;refine f_in Tryz.func206 rfl ?_;refine go ?_;refine bx (fun aoy aox r8=>?_);have ⟨hb1,hb2⟩:=bf2 aox.2 hb1 hb2;have aol:=aox.2;refine al inf1056 (fun _ aor sc=>?_);have ⟨hb1,hb2,r8,aol⟩:=be3 aor.2 hb1 hb2 r8 aol;refine go ?_;refine c_an 6 ?_;refine sf ?_;refine sf_ae (V:=.agg #[S (nS ((tmP sO t x).1)),S (nS ((tmP sO t x).2))]) (fun _ _ aom _=>?_) ?_;refine cl en1074 (spTimes_ok hS htb hx (ht.ext (xt aol aom))) ?_;rintro _ _ aon rfl;have aoz:=aon.2;refine go ?_;exact fs ⟨aoz,rfl⟩;refine sf ?_;intro _ _ aoo _;have ⟨hb1,hb2,r8,sc,aol⟩:=be4 aoo.2 hb1 hb2 r8 sc aol;refine clb en1070 (hc:=spBy_ok (tmP_bd hS.pos htb hx) dc om om (ht.ext aol)) (hk:=?_);rintro _ _ aop rfl;have ⟨hb1,hb2,r8,sc,aol⟩:=be4 aop.2 hb1 hb2 r8 sc aol;refine SA sc (fun _ aoq ao0=>?_);have ⟨hb1,hb2,r8,aol,_⟩:=pl3 aoq hb1 hb2 r8 aol;refine go ?_;refine f_out (v:=.agg #[S (nS ((byP (tmP sO t x) 1 n).1)),S (nS ((byP (tmP sO t x) 1 n).2))]) (res1  rfl ?_) aol rfl;refine res_cellA (t:=6) (cs:=[S (nS ((byP (tmP sO t x) 1 n).1)),S (nS ((byP (tmP sO t x) 1 n).2))]) (b:=aoy.heap.size) (o:=0) U1056 rfl sz1056 ?_ ?_;exact rfl;exact Blk.cells ao0 (i:=0) rfl
theorem hn1_ok {sO pl n b1 b2:Nat}{t x:N2}{w:World}(hS:Sc sO)(hb1:Blk w b1 105 #[.int .i64 pl,S (nS sO)])(hb2:Blk w b2 164 #[S (nS x.1),S (nS x.2)])(htb:Bk 95 t)(hx:Bk 95 x)(h0:0<n)(hn:n<100000)(ht:Tb w) :
    Calls Tryz.prog 175 #[.agg #[S (nS t.1),S (nS t.2)],.int .i64 n,.pointer (some ⟨b1,0,none⟩),.pointer (some ⟨b2,0,none⟩)] w (Ret w fun v w'=>v=.agg #[S (nS ((hnN sO x n t).1)),S (nS ((hnN sO x n t).2))]):=by
 have zb1:=bt hb1;have zb2:=bt hb2;refine f_in Tryz.func175 rfl ?_;refine go ?_;refine bx (fun ao0 aoz r8=>?_);have ⟨hb1,hb2⟩:=bf2 aoz.2 hb1 hb2;have aol:=aoz.2;refine al inf1056 (fun _ aor sc=>?_);have ⟨hb1,hb2,r8,aol⟩:=be3 aor.2 hb1 hb2 r8 aol;refine go ?_;refine c_an 8 ?_;refine sf ?_;refine sf_ae (V:=.agg #[S (nS ((tmP sO t x).1)),S (nS ((tmP sO t x).2))]) (fun _ _ aom _=>?_) ?_;refine cl en1074 (spTimes_ok hS htb hx (ht.ext (xt aol aom))) ?_;rintro _ _ aon rfl;have ao1:=aon.2;refine go ?_;exact fs ⟨ao1,rfl⟩;refine sf ?_;refine sf_ap (fun _ _ _ _=>by refine l_op (k_mul (a:=2) (b:=(n:Int)) (c:=((2*n:Nat) : Int)) rfl rfl (by unfold In64; omega) om ?_);refine go ?_;exact finp) ?_;refine sf_ap (fun _ _ _ _=>by refine l_op (k_add (a:=((2*n:Nat) : Int)) (b:=1) (c:=((2*n+1:Nat) : Int)) rfl rfl (by unfold In64; omega) om ?_);refine go ?_;exact finp) ?_;refine sf ?_;intro _ _ aoo _;have ⟨hb1,hb2,r8,sc,aol⟩:=be4 aoo.2 hb1 hb2 r8 sc aol;refine clb en1070 (hc:=spBy_ok (tmP_bd hS.pos htb hx) dc om om (ht.ext aol)) (hk:=?_);rintro _ _ aop rfl;have ⟨hb1,hb2,r8,sc,aol⟩:=be4 aop.2 hb1 hb2 r8 sc aol;refine SA sc (fun _ aoq ao2=>?_);have ⟨hb1,hb2,r8,aol,_⟩:=pl3 aoq hb1 hb2 r8 aol;refine go ?_;refine f_out (v:=.agg #[S (nS ((byP (tmP sO t x) 1 (2*n+1)).1)),S (nS ((byP (tmP sO t x) 1 (2*n+1)).2))]) (res1  rfl ?_) aol rfl
 refine res_cellA (t:=6) (cs:=[S (nS ((byP (tmP sO t x) 1 (2*n+1)).1)),S (nS ((byP (tmP sO t x) 1 (2*n+1)).2))]) (b:=ao0.heap.size) (o:=0) U1056 rfl sz1056 ?_ ?_;exact rfl;exact Blk.cells ao2 (i:=0) rfl
theorem half_le {S:Nat} : ∀ {f h:Nat} {x:N2} {p:N2 × Nat},halfF S f x h=some p→p.2≤h+f
  | 0,_,_,_,e=>by simp [halfF] at e
  | f + 1, h, x, p, e => by
    unfold halfF at e
    split at e
    · have:=half_le e; omega
    · cases e; simp
set_option maxRecDepth 100000 in
theorem exp_ok {sO pl:Nat}{x r:N2}{w:World}(hS:Sc sO)(he:expP sO x=some r)(ht:Tb w) :
    Calls Tryz.prog 178 #[.agg #[.int .i64 pl,S (nS sO)],.agg #[S (nS x.1),S (nS x.2)]] w (Ret w fun v w'=>v=.agg #[S (nS r.1),S (nS r.2)]):=by
 obtain ⟨hx,p,s,hp,hs,hq⟩:=exp_inv he;have hp2:=half_le hp;refine f_in Tryz.func178 rfl ?_;refine go ?_;refine bx (fun aom apz r8=>?_);have aoq:=apz.2;refine bx (fun aox apw ape=>?_);have ⟨r8,aoq⟩:=be1 apw.2 r8 aoq;refine al inf1056 (fun ap0 apf sc=>?_);have ⟨r8,ape,aoq⟩:=be2 apf.2 r8 ape aoq;refine go ?_;refine c_lp [(5,5),(7,18)] (fun kk e W=>∃ f:Nat,∃ y:N2,∃ h:Nat,(f=kk)∧(e 5=.int .i64 h)∧(halfF sO f y h=some p)∧(Bk 95 y)∧(h+f≤200)∧(ap0.heap.size≤W.heap.size)∧(Ext w W)∧(Blk W (w.heap.size) 105 #[.int .i64 pl,S (nS sO)])∧(Blk W (aox.heap.size) 164 #[S ([]),S ([])])∧(Blk W (aom.heap.size) 164 #[S (nS y.1),S (nS y.2)])) ((200)) ⟨200,x,0,rfl,rfl,hp,hx,om,(Nat.le_refl _),aoq,r8,sc,ape⟩ ?_;rintro _ _ _ ⟨f,y,h,rfl,apx,hh,hy,hb,aqm,aol,r8,sc,hbx⟩;have aqn:=bz aol;by_cases hl:sO<y.2*2;obtain ⟨g,rfl,hh2⟩:=half_t hh hl;refine go ?_;refine c_an 5 ?_;refine sf ?_;refine sf_ae (V:=S (nS (y.2*2))) (fun _ _ aoy _=>?_) ?_;refine clb en1043 (hc:=nMul_ok rfl lit2 (hy.fi dc).2 (fi_pow (k:=1) dc dc) (by have:=hy.2; unfold Fi; omega) (ht.ext (xt aol aoy))) (hk:=?_);rintro _ _ aoz rfl;have ap1:=aoz.2;refine go ?_;exact fs ⟨ap1,rfl⟩;refine sf ?_;intro _ _ ao0 _;have ⟨r8,sc,hbx,aol⟩:=be3 ao0.2 r8 sc hbx aol;refine clb en84 (hc:=cmpN rfl rfl (by have:=hy.2; unfold Fi; omega) hS.fi) (hk:=?_);rintro _ _ ao1 rfl;have ⟨r8,sc,hbx,aol⟩:=be3 ao1.2 r8 sc hbx aol
 have zq1q:=cmp_gt0 hl;refine go ?_;refine clb en1070 (hc:=spBy_ok (hy.mono dc) dc dc dc (ht.ext aol)) (hk:=?_);rintro _ _ ao2 rfl;have ⟨r8,sc,hbx,aol⟩:=be3 ao2.2 r8 sc hbx aol;refine SA hbx (fun _ ao3 ap2=>?_);have ⟨r8,sc,aol,_⟩:=pl2 ao3 r8 sc aol;refine go ?_;refine l_op (k_add (a:=(h:Int)) (b:=1) (c:=((h+1:Nat) : Int)) rfl rfl (by unfold In64; omega) om ?_);refine go ?_;exact lend ⟨g,byP y 1 2,h+1,rfl,rfl,hh2,(half_bd hy),om,om,aol,r8,sc,ap2⟩;have hpe:=half_f hh hl;subst hpe;have hm:=sumP_inv hs;obtain ⟨m,hR,hr⟩:=hm;refine go ?_;refine c_an 5 ?_;refine sf ?_;refine sf_ae (V:=S (nS (y.2*2))) (fun _ _ ao4 _=>?_) ?_;refine clb en1043 (hc:=nMul_ok rfl lit2 (hy.fi dc).2 (fi_pow (k:=1) dc dc) (by have:=hy.2; unfold Fi; omega) (ht.ext (xt aol ao4))) (hk:=?_);rintro _ _ ao5 rfl;have ap3:=ao5.2;refine go ?_;exact fs ⟨ap3,rfl⟩;refine sf ?_;intro _ _ ao6 _;have ⟨r8,sc,hbx,aol⟩:=be3 ao6.2 r8 sc hbx aol;refine clb en84 (hc:=cmpN rfl rfl (by have:=hy.2; unfold Fi; omega) hS.fi) (hk:=?_);rintro _ ap4 ao7 rfl;have ⟨r8,sc,hbx,aol⟩:=be3 ao7.2 r8 sc hbx aol;have zq2q:=cmp_gt1 hl;refine go ?_;refine c_an 7 ?_;refine sf ?_;refine sf_ae (V:=.agg #[S (nS ((1*sO,1*sO).1)),S (nS ((1*sO,1*sO).2))]) (fun _ _ ao8 _=>?_) ?_;refine clb en1030 (hc:=spWhole_ok (n:=1) hS dc (by rw [Nat.one_mul]; exact hS.fi) (ht.ext (xt aol ao8))) (hk:=?_);rintro _ _ ao9 rfl;have ap5:=ao9.2
 refine go ?_;exact fs ⟨ap5,rfl⟩;refine sf_ap (fun _ _ _ _=>by refine l_op (k_makeFunc (vf:=[]) (vc:=[.pointer (some ⟨w.heap.size,0,none⟩),.pointer (some ⟨aom.heap.size,0,none⟩)]) rfl rfl ?_);refine go ?_;exact finp) ?_;refine sf_ah (fun v wz=>SeqV (1*sO,1*sO) (.func (.func 206) #[] #[.pointer (some ⟨w.heap.size,0,none⟩),.pointer (some ⟨aom.heap.size,0,none⟩)]) wz v) (hs:=fun _ _ _ k h=>h.ext k) (fun _ _ _ _=>?_) ?_;refine cl en1072 terms_ok ?_;rintro _ _ apa hsq;have ap6:=apa.2;refine go ?_;exact fs ⟨ap6,hsq⟩;refine sf_ae (V:=.agg #[S (nS s.1),S (nS s.2)]) (fun _ _ aor ap7=>?_) ?_;obtain ⟨_,_,aqa,apt,apu⟩:=(ap7 4 23 rfl rfl);have ⟨r8,hbx⟩:=bf2 aor r8 hbx;refine clb en1071 (hc:=cP (sum_ok hR hS apt apu en1073 (fun k hk W e=>exp1_ok hS (r8.ext e) (hbx.ext e) (hR.bd k om) hy om (by have:=hR.lt; omega) ((ht.ext (xt aol aor)).ext e)) (ht.ext (xt aol aor))) hr) (hk:=?_) (hv:=cons_eq rfl (cons_eq aqa rfl));rintro _ _ aoo rfl;have aqb:=aoo.2;refine go ?_;exact fs ⟨aqb,rfl⟩;refine sf_ah (fun v wz=>∃ b:Nat,v=.pointer (some ⟨b,0,none⟩)∧ap4.heap.size≤b∧Blk wz b 164 #[S ([]),S ([])]) (hs:=fun _ _ _ k ⟨b,e,l,h⟩=>⟨b,e,l,h.ext k⟩) (fun _ _ apb _=>?_) ?_;refine al inf1056 (fun _ apc aqc=>?_);have aqd:=apc.2;refine go ?_;exact fs ⟨aqd,⟨_,rfl,(by have:=bz apb; omega),aqc⟩⟩;refine sf ?_;intro _ _ apd aqe;have ⟨r8,sc,hbx,aol⟩:=be3 apd.2 r8 sc hbx aol
 obtain ⟨aop,_,_,apy⟩:=(aqe 6 6 rfl rfl);have asw:=bt apy;refine SA apy (fun aqf aot aqg=>?_);have ⟨r8,sc,hbx,aol,_⟩:=pl3 aot r8 sc hbx aol;refine go ?_;refine c_lp [(26,32)] (fun kk e W=>∃ i:Nat,∃ a:N2,(h - i=kk)∧(e 26=.int .i64 i)∧(i≤h)∧(sqF sO (h - i) a=some r)∧(aqf.heap.size≤W.heap.size)∧(Ext w W)∧(Blk W (w.heap.size) 105 #[.int .i64 pl,S (nS sO)])∧(Blk W (aox.heap.size) 164 #[S ([]),S ([])])∧(Blk W (aom.heap.size) 164 #[S (nS y.1),S (nS y.2)])∧(Blk W aop 164 #[S (nS a.1),S (nS a.2)])) (h - 0) ⟨0,s,rfl,rfl,(Nat.zero_le _),hq,(Nat.le_refl _),aol,r8,sc,hbx,aqg⟩ ?_;rintro _ _ _ ⟨i,a,rfl,apv,hi,hq2,as1,aon,r8,sc,hbx,hbo⟩;have as2:=bz aon;by_cases hl2:i<h;obtain ⟨ha,hq3⟩:=sq_t hq2 hl2;refine go ?_;refine cl en1074 (spTimes_ok hS ha ha (ht.ext aon)) ?_;rintro _ _ aou rfl;have ⟨r8,sc,hbx,hbo,aon⟩:=be4 aou.2 r8 sc hbx hbo aon;refine SA hbo (fun _ aov aqh=>?_);have ⟨r8,sc,hbx,aon,_⟩:=pl3 aov r8 sc hbx aon;refine go ?_;refine l_op (k_add (a:=(i:Int)) (b:=1) (c:=((i+1:Nat) : Int)) apv rfl (by unfold In64; omega) om ?_);refine go ?_;exact lend ⟨i+1,tmP sO a a,rfl,rfl,om,hq3,om,aon,r8,sc,hbx,aqh⟩;obtain ⟨rfl,_⟩:=sq_f hq2 hl2;refine go ?_;refine SA sc (fun _ aow aqi=>?_);have ⟨r8,hbx,hbo,aon,_⟩:=pl3 aow r8 hbx hbo aon;refine go ?_;refine f_out (v:=.agg #[S (nS a.1),S (nS a.2)]) (res1  rfl ?_) aon rfl
 refine res_cellA (t:=4) (cs:=[S (nS a.1),S (nS a.2)]) (b:=aox.heap.size) (o:=0) U1056 rfl sz1056 ?_ ?_;exact rfl;exact Blk.cells aqi (i:=0) rfl
def limbs:Nat→Nat→Nat
  | 0,_=>0
  | f+1,n=>if n=0 then 0 else limbs f (n / 10000)+1
theorem limbs_eq : ∀ {f n:Nat},n<10000 ^ f→(toB 10000 n).length=limbs f n
  | 0,n,h=>by rw [show n=0 by simpa using h,toB_zero]; rfl
  | f + 1, n, h => by
    unfold limbs
    split
    · rename_i h0; rw [h0,toB_zero]; rfl
    · rename_i h0
      rw [toB_pos 10000 n om om,List.length_cons,limbs_eq (f:=f)]
      rw [Nat.pow_succ] at h
      exact Nat.div_lt_of_lt_mul (by rw [Nat.mul_comm]; exact h)
def rtF:Nat→Nat→Nat→Option Nat
  | 0,_,_=>none
  | f+1,n,t=>if t≤(t+n / t) / 2 then some t else rtF f n ((t+n / t) / 2)
def rtN (n:Nat) : Option Nat:=rtF 1000 n (10000 ^ ((limbs 60 n+1) / 2))
theorem rt_t {f n t r:Nat}(h:rtF f n t=some r)(hl:t≤(t+n / t) / 2) : r=t:=by
  cases f with
  | zero=>cases h
  | succ g=>unfold rtF at h; rw [if_pos hl] at h; cases h; rfl
theorem rt_f {f n t r:Nat}(h:rtF f n t=some r)(hl:¬ t≤(t+n / t) / 2) : ∃ g,f=g+1∧rtF g n ((t+n / t) / 2)=some r:=by
  cases f with
  | zero=>cases h
  | succ g=>unfold rtF at h; rw [if_neg hl] at h; exact ⟨g,rfl,h⟩
theorem toB_pow (k:Nat) : toB 10000 (10000 ^ k)=List.replicate k 0 ++ [1]:=by
  induction k with
  | zero=>decide
  | succ k ih =>
    rw [toB_pos 10000 _ om (Nat.pow_pos om),Nat.pow_succ,Nat.mul_mod_left,Nat.mul_div_cancel _ om,ih,List.replicate_succ,List.cons_append]
theorem num_pow {w:World}{lo k c:Nat}{A:Option Addr}(h:Rw w lo A ((madeCells (Value.int .i64 0).cells (k*1)).toList ++ [Value.int .i64 1]))(hc:k+1≤c) : Num w lo A (k+1) c (10000 ^ k):=by
  refine ⟨?_,by rw [toB_pow]; simp,hc⟩
  have e:(madeCells (Value.int .i64 0).cells (k*1)).toList ++ [Value.int .i64 1]=ints (toB 10000 (10000 ^ k)):=by
    show (madeCells #[Value.int .i64 0] (k*1)).toList ++ _=_
    rw [made_ints,toB_pow]; simp [ints]
  rw [← e]; exact h
theorem num_two {w:World}{lo:Nat}{A:Option Addr}(h:Rw w lo A [Value.int .i64 2]) : Num w lo A 1 1 2:=by
  have e:toB 10000 2=[2]:=by decide
  exact ⟨by rw [e]; exact h,by rw [e]; rfl,Nat.le_refl _⟩
theorem body_nS (n:Nat) : body (nS n)=showN n:=by unfold nS; rw [body_showI]; simp
theorem neg_nS (n:Nat) : neg (nS n)=false:=by unfold nS; rw [neg_showI]; exact decide_eq_false om
theorem bothN_ok {n : Nat} {w : World} (hn : Fi n) : Calls Tryz.prog 61 #[S (nS n), S [48]] w (Ret w fun v w' => ∃ A1 n1 c1 A2 n2 c2, v = .tuple #[.agg #[.bool false, .slice A1 n1 c1], .agg #[.bool false, .slice A2 n2 c2], .bool true] ∧ Num w' w.heap.size A1 n1 c1 n ∧ Num w' w.heap.size A2 n2 c2 0) := by
  have h:=both_ok (nS n) [48] w hn.z.int isInt_zero
  rw [body_nS,neg_nS,valN_showN,show neg [48]=false from rfl,show valN (body [48])=0 from valN_zero] at h
  exact h
theorem fi50 {n:Nat}(h:Fi n) : n<10000 ^ 50:=Nat.lt_of_lt_of_le h dc
theorem rt_sum {n t:Nat}(hn:n<10000 ^ 50)(ht:t≤10000 ^ 26) : t+n / t<10000 ^ 51:=by
  have h1:n / t≤n:=Nat.div_le_self _ _
  have h2:(10000:Nat) ^ 50+10000 ^ 26<10000 ^ 51:=by decide
  omega
theorem out_fit {t:Nat}(ht:t≤10000 ^ 26) : resI (outI (sgn false t))=.tuple #[S (nS t),.int .i64 0]:=by
  have h : fits (sgn false t) = true := decide_eq_true (by have h2 : (10000 : Nat) ^ 26 < 10 ^ 200 := by decide
                                                           simp [sgn]; omega)
  unfold outI; rw [if_pos h]; rfl
theorem cmpI_swap0 {x y:Int} : (0≤cmpI x y) ↔ y≤x:=by
  unfold cmpI; split
  · constructor <;> intro h <;> omega
  · split
    · constructor <;> intro _ <;> omega
    · constructor <;> intro _ <;> omega
theorem cEqR {f:FuncId}{a:Array Value}{w:World}{X Y:Value}(h:Calls Tryz.prog f a w (Ret w fun v _=>v=X))(e:X=Y) : Calls Tryz.prog f a w (Ret w fun v _=>v=Y):=e ▸ h
theorem rt_ge {x y:Nat}(h:(0:Int)≤cmpI (x:Int) (y:Int)) : y≤x:=by
  rw [cmpI_swap0] at h
  omega
theorem rt_lt {x y:Nat}(h:¬ (0:Int)≤cmpI (x:Int) (y:Int)) : ¬ y≤x:=by
  rw [cmpI_swap0] at h
  omega
theorem rt_pos {n t:Nat}(hn:0<n)(ht:0<t) : 0<(t+n / t) / 2:=by
  by_cases h:t=1
  · subst h; rw [Nat.div_one]; omega
  · have h2 : 2 ≤ t := by omega
    exact Nat.div_pos (Nat.le_trans h2 (Nat.le_add_right _ _)) om
set_option maxRecDepth 100000 in
theorem root_ok {n r:Nat}{w:World}(fn:Fi n)(hn0:0<n)(hr:rtN n=some r)(ht:Tb w) :
    Calls Tryz.prog 207 #[S (nS n)] w (Ret w fun v w'=>v=.tuple #[S (nS r),.int .i64 0]):=by
 have hl60:(toB 10000 n).length=limbs 60 n:=limbs_eq (Nat.lt_of_lt_of_le (fi50 fn) (Nat.pow_le_pow_right dc dc));refine f_in Tryz.func207 rfl ?_;refine go ?_;refine cl en104 (bothN_ok fn) ?_;rintro _ aon apc ⟨A1,n1,c1,A2,n2,c2,rfl,hN,hz⟩;have aom:=apc.2;have uhN:=hN.hi;have l1:=num_len hN (fi50 fn);have p1:0<n1:=by rw [← hN.len,List.length_pos_iff]; exact fun e=>by have:=ofB_toB 10000 om n; rw [e] at this; simp [ofB] at this; omega
 refine go ?_;refine al inf125 (fun ao2 ao7 ao3=>?_);have hN:=Num.ext ao7.2 hN;have aom:=xt aom ao7.2;refine al inf125 (fun _ ao4 ao5=>?_);have hN:=Num.ext ao4.2 hN;have ⟨ao3,aom⟩:=be1 ao4.2 ao3 aom;refine SA ao3 (fun _ aoy r8=>?_);have hN:=Num.putU aoy (fun ad e=>by have:=uhN ad e; omega) hN;have ⟨ao5,aom,_⟩:=pl1 aoy ao5 aom;refine SA ao5 (fun ao6 aoz sc=>?_);have hN:=Num.putU aoz (fun ad e=>by have:=uhN ad e; omega) hN;have ⟨r8,aom,_⟩:=pl1 aoz r8 aom;refine go ?_;refine l_op (k_add (a:=(n1:Int)) (b:=1) (c:=((n1+1:Nat) : Int)) rfl rfl (by unfold In64; omega) om ?_);refine l_op (k_quo (a:=((n1+1:Nat) : Int)) (b:=2) (c:=((((n1+1) / 2) : Nat) : Int)) rfl rfl om om (by unfold In64; omega) om ?_);refine l_op (k_make (m:=((n1+1) / 2)) U123 inf3 rfl rfl om (by simp only [maxLen]; omega) (fun _ aou _ aov=>?_));have ao8:(.slice (some ⟨ao6.heap.size,0,none⟩) (((n1+1) / 2)) (((n1+1) / 2)) : Value).ownBlock≠some (aon.heap.size):=fun e=>by (have:=bt r8; simp only [Value.ownBlock,Option.map_some,Option.some.injEq] at e; omega)
 have ao9:(.slice (some ⟨ao6.heap.size,0,none⟩) (((n1+1) / 2)) (((n1+1) / 2)) : Value).ownBlock≠some (ao2.heap.size):=fun e=>by (have:=bt sc; simp only [Value.ownBlock,Option.map_some,Option.some.injEq] at e; omega)
 have hN:=Num.ext aou hN;have ⟨r8,sc,aom⟩:=be2 aou r8 sc aom;have apq:=bz aou;refine BS (fun _ aos _ apd=>?_);have apt:=own_ne_new aov;have hN:=Num.ext aos hN;have ⟨r8,sc⟩:=bf2 aos r8 sc;have aov:=own_ext aos aov;have aom:=xt aom aos;have apu:=bz aos;refine AP aov (Rw.of_own apd) (fun ape apf apa aow apb=>?_);have apv:=own_ne_app apb ao8 (bt r8);have apw:=own_ne_app apb ao9 (bt sc);have hN:=Num.gr aow (fun ad e=>by have:=uhN ad e; simp [Value.ownBlock]; omega) hN;have r8:=Blk.gr aow (fun e=>ao8 e.symm) r8;have sc:=Blk.gr aow (fun e=>ao9 e.symm) sc;have aom:=low_app aov om om aom aow;have apx:=aow.size;refine l_op (k_assign (v:=ape) rfl ?_);refine go ?_;obtain ⟨At,ct,rfl,hct,-,-,-⟩:=own_form apa;have hT:=num_pow (Rw.of_own apa) hct;have hr0:rtF 1000 n (10000 ^ ((n1+1) / 2))=some r:=by rw [← hN.len,hl60]; exact hr
 refine go ?_;refine c_lp [(2,3),(7,11),(32,60)] (fun kk e W=>∃ f:Nat,∃ Ax:Option Addr,∃ nx:Nat,∃ cx:Nat,∃ t:Nat,(f=kk)∧(e 7=.slice Ax nx cx)∧(rtF f n t=some r)∧(t≤10000 ^ 26)∧(0<t)∧(apf.heap.size≤W.heap.size)∧(Ext w W)∧(Num W w.heap.size A1 n1 c1 n)∧(Blk W (aon.heap.size) 92 #[.bool false,.slice A1 n1 c1])∧(Blk W (ao2.heap.size) 92 #[.bool false,.slice A2 n2 c2])∧(Num W w.heap.size Ax nx cx t)) ((1000)) ⟨1000,At,((n1+1) / 2)+1,ct,10000 ^ ((n1+1) / 2),rfl,rfl,hr0,(Nat.pow_le_pow_right dc om),(Nat.pow_pos dc),(Nat.le_refl _),aom,hN,r8,sc,(hT.mono om)⟩ ?_;rintro _ _ _ ⟨f,Ax,nx,cx,t,rfl,ao0,hf,htb,ht0,ap1,aol,hN,r8,sc,hT⟩;have ap2:=bz aol;have lt:=num_len (k:=27) hT (Nat.lt_of_le_of_lt htb dc);have lN:=num_len hN (fi50 fn);refine go ?_;refine clb en105 (hc:=over_ok hN om hT om ht0) (hk:=?_);rintro _ _ aox ⟨Aq,nq,cq,Ar,nr,cr,rfl,hQ,hRr⟩;have hN:=Num.ext aox.2 hN;have ⟨r8,sc⟩:=bf2 aox.2 r8 sc;have hT:=Num.ext aox.2 hT;have aol:=xt aol aox.2;have lq:=num_len hQ (Nat.lt_of_le_of_lt (Nat.div_le_self _ _) (fi50 fn));refine go ?_;refine clb en106 (hc:=plus_ok hT om hQ om) (hk:=?_);rintro _ _ aot ⟨As,ns,cs,rfl,hS⟩;have hN:=Num.ext aot.2 hN;have ⟨r8,sc⟩:=bf2 aot.2 r8 sc;have hT:=Num.ext aot.2 hT;have aol:=xt aol aot.2;have ls:=num_len hS (rt_sum (fi50 fn) htb);refine BS (fun _ aoo _ aph=>?_)
 have hN:=Num.ext aoo hN;have ⟨r8,sc⟩:=bf2 aoo r8 sc;have hT:=Num.ext aoo hT;have hS:=Num.ext aoo hS;have aol:=xt aol aoo;have ap8:=bz aoo;have h2n:=num_two (Rw.of_own aph);refine clb en105 (hc:=over_ok hS om h2n om dc) (hk:=?_);rintro _ _ aor ⟨Ay,ny,cy,Ar2,nr2,cr2,rfl,hY,hR2⟩;have hN:=Num.ext aor.2 hN;have ⟨r8,sc⟩:=bf2 aor.2 r8 sc;have hT:=Num.ext aor.2 hT;have aol:=xt aol aor.2;have ly:=num_len hY (Nat.lt_of_le_of_lt (Nat.div_le_self _ _) (rt_sum (fi50 fn) htb));refine go ?_;refine clb en110 (hc:=compare_ok hY om hT) (hk:=?_);rintro _ _ aop rfl;have hN:=Num.ext aop.2 hN;have ⟨r8,sc⟩:=bf2 aop.2 r8 sc;have hT:=Num.ext aop.2 hT;have hY:=Num.ext aop.2 hY;have aol:=xt aol aop.2;refine go ?_;by_cases ao1:0≤(cmpI ((((t+n / t) / 2:Nat)) : Int) (((t:Nat)) : Int));have hge:=rt_ge ao1;have hrt:=rt_t hf hge;refine go ?_;refine l_op (k_build (vs:=[(1,.slice Ax nx cx)]) (cells:=#[.bool false,.slice Ax nx cx]) (pl:=[(0,1),(1,1)]) U125 inf125 (by kernel_rfl) rfl (by kernel_rfl) ?_);refine clb en109 (hc:=cEqR (stext_ok (ng:=false) hT om (ht.ext aol)) (out_fit htb)) (hk:=?_);rintro _ _ aoq rfl;have aol:=xt aol aoq.2;refine go ?_;exact f_ret2 (t:=2) (u:=3) (v1:=S (nS t)) (v2:=.int .i64 0) rfl aol (by rw [hrt]) rfl rfl;have hge:=rt_lt ao1;obtain ⟨g,rfl,h2⟩:=rt_f hf hge;refine go ?_
 exact lend ⟨g,Ay,ny,cy,(t+n / t) / 2,rfl,rfl,h2,(by have:=Nat.not_le.1 hge; omega),(rt_pos hn0 ht0),om,aol,hN,r8,sc,(hY.mono om)⟩
end Go.Proofs.YtonigegpknhdnaaGreatDoor
namespace Go.Proofs.YtonigegpknhdnaaGreatDoor
open Go Go.Eng Go.RowKit
def rootP (S:Nat)(a:N2) : Option N2:=if bdB a=true∧0<a.1*S∧0<a.2*S then (rtN (a.1*S)).bind fun x=>(rtN (a.2*S)).bind fun y=>if bdB (x,y)=true then some (x,y+1) else none else none
theorem root_inv {S:Nat}{a r:N2}(h:rootP S a=some r) : Bk 95 a∧0<a.1*S∧0<a.2*S∧∃ x y,rtN (a.1*S)=some x∧rtN (a.2*S)=some y∧Bk 95 (x,y)∧r=(x,y+1):=by
  unfold rootP at h
  split at h
  · rename_i h1
    refine ⟨bdB_ok h1.1,h1.2.1,h1.2.2,?_⟩
    cases hx:rtN (a.1*S) with
    | none=>rw [hx] at h; cases h
    | some x =>
      rw [hx,Option.bind_some] at h
      cases hy:rtN (a.2*S) with
      | none=>rw [hy] at h; cases h
      | some y =>
        rw [hy,Option.bind_some] at h
        split at h
        · rename_i h2; cases h; exact ⟨x,y,rfl,rfl,bdB_ok h2,rfl⟩
        · cases h
  · cases h
def piL:List UInt8:=[51,49,52,49,53,57,50,54,53,51,53,56,57,55,57,51,50,51,56,52,54,50,54,52,51,51,56,51,50,55,57,53,48,50,56,56,52,49,57,55,49,54,57,51,57,57,51,55,53,49,48,53,56,50,48,57,55,52,57,52,52,53,57,50,51,48,55,56,49,54,52,48,54,50,56,54,50,48,56,57,57]
def piN (k:Nat) : Nat:=314159265358979323846264338327950288419716939937510582097494459230781640628620899 / 10 ^ (80 - k)
theorem pi_str {k:Nat}(h:k<81) : piL.take (k+1)=nS (piN k):=by
  have : ∀ k:Fin 81,piL.take (k.1+1)=nS (piN k.1):=by decide +kernel
  exact this ⟨k,h⟩
theorem pi_bd {k:Nat} : piN k<10 ^ 81:=Nat.lt_of_le_of_lt (Nat.div_le_self _ _) dc
def hnP (S pl n d:Nat) : Option N2:=
  if bdB (n,d)=true∧0<d∧bdB (ofP S n d)=true∧bdB (tmP S (ofP S n d) (ofP S n d))=true then
    (sumP (hnN S (tmP S (ofP S n d) (ofP S n d))) (ofP S n d)).bind fun s =>
    (expP S (byP (tmP S (ofP S n d) (ofP S n d)) 1 2)).bind fun e =>
    (rootP S (byP (piN pl,piN pl+1) 2 1)).bind fun c =>
    if bdB s=true∧bdB c=true∧0<(tmP S e c).1∧0<(tmP S e c).2 then some (ovP S s (tmP S e c)) else none
  else none
theorem hn_inv {S pl n d:Nat}{r:N2}(h:hnP S pl n d=some r) : Bk 95 (n,d)∧0<d∧Bk 95 (ofP S n d)∧Bk 95 (tmP S (ofP S n d) (ofP S n d))∧∃ s e c,
    sumP (hnN S (tmP S (ofP S n d) (ofP S n d))) (ofP S n d)=some s∧expP S (byP (tmP S (ofP S n d) (ofP S n d)) 1 2)=some e∧rootP S (byP (piN pl,piN pl+1) 2 1)=some c∧Bk 95 s∧Bk 95 c∧0<(tmP S e c).1∧0<(tmP S e c).2∧r=ovP S s (tmP S e c):=by
  unfold hnP at h
  split at h
  · rename_i h1
    refine ⟨bdB_ok h1.1,h1.2.1,bdB_ok h1.2.2.1,bdB_ok h1.2.2.2,?_⟩
    cases hs:sumP (hnN S (tmP S (ofP S n d) (ofP S n d))) (ofP S n d) with
    | none=>rw [hs] at h; cases h
    | some s =>
      rw [hs,Option.bind_some] at h
      cases he:expP S (byP (tmP S (ofP S n d) (ofP S n d)) 1 2) with
      | none=>rw [he] at h; cases h
      | some e =>
        rw [he,Option.bind_some] at h
        cases hc:rootP S (byP (piN pl,piN pl+1) 2 1) with
        | none=>rw [hc] at h; cases h
        | some c =>
          rw [hc,Option.bind_some] at h
          split at h
          · rename_i h2; cases h; exact ⟨s,e,c,rfl,rfl,rfl,bdB_ok h2.1,bdB_ok h2.2.1,h2.2.2.1,h2.2.2.2,rfl⟩
          · cases h
  · cases h
end Go.Proofs.YtonigegpknhdnaaGreatDoor
namespace Go.Proofs.YtonigegpknhdnaaGreatDoor
set_option maxRecDepth 100000
open Go Go.Eng Go.RowKit
attribute [local irreducible] wpListIn Code.wpIn Oper.wpIn Exit.then Exit.inBlock Exit.noGoto
set_option maxHeartbeats 40000000
theorem pi_len:piL.length=81:=by decide +kernel
theorem spOfL_ok {l m:List UInt8}{sO pl n d:Nat}{w:World}(hl:l=nS n)(hm:m=nS d)(hS:Sc sO)(hn:Fi n)(hd:Fi d)(h0:0<d)(hf:Fi (n*sO))(ht:Tb w) :
    Calls Tryz.prog 126 #[.agg #[.int .i64 pl,S (nS sO)],.agg #[S l,S m]] w (Ret w fun v _=>v=.agg #[S (nS (ofP sO n d).1),S (nS (ofP sO n d).2)]):=by
  subst hl hm
  exact spOf_ok hS hn hd h0 hf ht
theorem spRoot_ok {sO pl:Nat}{a r:N2}{w:World}(hS:Sc sO)(hr:rootP sO a=some r)(ht:Tb w) :
    Calls Tryz.prog 179 #[.agg #[.int .i64 pl,S (nS sO)],.agg #[S (nS a.1),S (nS a.2)]] w (Ret w fun v w'=>v=.agg #[S (nS r.1),S (nS r.2)]):=by
 obtain ⟨ha,p1,p2,x,y,hr1,hr2,hb,hre⟩:=root_inv hr;have fa:=ha.fi dc;refine f_in Tryz.func179 rfl ?_;refine go ?_;refine bx (fun _ aox sc=>?_);have r8:=aox.2;refine bx (fun aov aow aol=>?_);have ⟨sc,r8⟩:=be1 aow.2 sc r8;refine al inf1056 (fun _ aou aom=>?_);have ⟨sc,aol,r8⟩:=be2 aou.2 sc aol r8;refine go ?_;refine clb en1043 (hc:=nMul_ok rfl rfl fa.1 hS.fi (fi_mul ha.1 hS.lt dc) (ht.ext r8)) (hk:=?_);rintro _ _ aoo rfl;have ⟨sc,aol,aom,r8⟩:=be3 aoo.2 sc aol aom r8;refine clb en1136 (hc:=root_ok (fi_mul ha.1 hS.lt dc) p1 hr1 (ht.ext r8)) (hk:=?_);rintro _ _ aop rfl;have ⟨sc,aol,aom,r8⟩:=be3 aop.2 sc aol aom r8;refine go ?_;refine clb en1043 (hc:=nMul_ok rfl rfl fa.2 hS.fi (fi_mul ha.2 hS.lt dc) (ht.ext r8)) (hk:=?_);rintro _ _ aoq rfl;have ⟨sc,aol,aom,r8⟩:=be3 aoq.2 sc aol aom r8;refine clb en1136 (hc:=root_ok (fi_mul ha.2 hS.lt dc) p2 hr2 (ht.ext r8)) (hk:=?_);rintro _ _ aor rfl;have ⟨sc,aol,aom,r8⟩:=be3 aor.2 sc aol aom r8;refine go ?_;refine clb en1045 (hc:=nAdd_ok rfl lit1 (by have:=hb.2; unfold Fi; simp only at this; omega) (ht.ext r8)) (hk:=?_);rintro _ _ aos rfl;have ⟨sc,aol,aom,r8⟩:=be3 aos.2 sc aol aom r8;refine go ?_;refine SA aom (fun _ aot aoy=>?_);have ⟨sc,aol,r8,_⟩:=pl2 aot sc aol r8;refine go ?_;refine f_out (v:=.agg #[S (nS x),S (nS (y+1))]) (res1  rfl ?_) r8 (by rw [hre]);refine res_cellA (t:=4) (cs:=[S (nS x),S (nS (y+1))]) (b:=aov.heap.size) (o:=0) U1056 rfl sz1056 ?_ ?_
 exact rfl;exact Blk.cells aoy (i:=0) rfl
theorem pi_ok {sO pl:Nat}{w:World}(hp:pl<81)(ht:Tb w) :
    Calls Tryz.prog 180 #[.agg #[.int .i64 pl,S (nS sO)]] w (Ret w fun v w'=>v=.agg #[S (nS ((piN pl,piN pl+1).1)),S (nS ((piN pl,piN pl+1).2))]):=by
 refine f_in Tryz.func180 rfl ?_;refine go ?_;refine bx (fun aoo aoq sc=>?_);have r8:=aoq.2;refine al inf1056 (fun _ aop aol=>?_);have ⟨sc,r8⟩:=be1 aop.2 sc r8;refine go ?_;refine l_op (k_add (a:=(pl:Int)) (b:=1) (c:=((pl+1:Nat) : Int)) rfl rfl (by unfold In64; omega) om ?_);refine l_op (k_sliceS (l:=piL) (i:=0) (j:=pl+1) U9 rfl (.inl ⟨rfl,rfl⟩) (.inr ⟨_,congrArg some rfl⟩) om (by rw [pi_len]; omega) ?_);rw [show (piL.take (pl+1)).drop 0=piL.take (pl+1) from rfl];refine go ?_;refine clb en1045 (hc:=nAdd_ok (pi_str hp) lit1 (by have:=pi_bd (k:=pl); unfold Fi; omega) (ht.ext r8)) (hk:=?_);rintro _ _ aom rfl;have ⟨sc,aol,r8⟩:=be2 aom.2 sc aol r8;refine go ?_;refine SA aol (fun _ aon aor=>?_);have ⟨sc,r8,_⟩:=pl1 aon sc r8;refine go ?_;refine f_out (v:=.agg #[S (piL.take (pl+1)),S (nS (piN pl+1))]) (res1  rfl ?_) r8 (by exact congrArg (fun l=>Value.agg #[S l,S (nS (piN pl+1))]) (pi_str hp));refine res_cellA (t:=2) (cs:=[S (piL.take (pl+1)),S (nS (piN pl+1))]) (b:=aoo.heap.size) (o:=0) U1056 rfl sz1056 ?_ ?_;exact rfl;exact Blk.cells aor (i:=0) rfl
theorem halfNormal_ok {sO pl n d:Nat}{r:N2}{w:World}(hS:Sc sO)(hp:pl<81)(hh:hnP sO pl n d=some r)(ht:Tb w) :
    Calls Tryz.prog 129 #[.agg #[.int .i64 pl,S (nS sO)],.agg #[S (nS n),S (nS d)]] w (Ret w fun v w'=>v=.agg #[S (nS r.1),S (nS r.2)]):=by
 obtain ⟨hnd,hd0,hv,hqq,s,e1,c,hs,he,hc,hsb,hcb,hm1,hm2,rfl⟩:=hn_inv hh;obtain ⟨m,hR,hr⟩:=sumP_inv hs;have heb:=exp_bd he;have fnd:=hnd.fi dc;refine f_in Tryz.func129 rfl ?_;refine go ?_;refine bx (fun _ ap7 r8=>?_);have aop:=ap7.2;refine bx (fun ap1 ap2 sc=>?_);have ⟨r8,aop⟩:=be1 ap2.2 r8 aop;refine al inf1056 (fun _ apy aol=>?_);have ⟨r8,sc,aop⟩:=be2 apy.2 r8 sc aop;refine go ?_;refine clb en1032 (hc:=spOfL_ok (n:=n) (d:=d) rfl rfl hS fnd.1 fnd.2 hd0 (fi_mul hnd.1 hS.lt dc) (ht.ext aop)) (hk:=?_);rintro _ _ apw rfl;have ⟨r8,sc,aol,aop⟩:=be3 apw.2 r8 sc aol aop;refine al inf1056 (fun _ apx ap8=>?_);have ⟨r8,sc,aol,aop⟩:=be3 apx.2 r8 sc aol aop;refine SA ap8 (fun _ apm aom=>?_);have ⟨r8,sc,aol,aop,_⟩:=pl3 apm r8 sc aol aop;refine go ?_;refine cl en1074 (spTimes_ok hS hv hv (ht.ext aop)) ?_;rintro _ apn apo rfl;have ⟨r8,sc,aol,aom,aop⟩:=be4 apo.2 r8 sc aol aom aop;refine al inf1056 (fun _ apq ap9=>?_);have ⟨r8,sc,aol,aom,aop⟩:=be4 apq.2 r8 sc aol aom aop;refine SA ap9 (fun aqa ao8 aon=>?_);have ⟨r8,sc,aol,aom,aop,_⟩:=pl4 ao8 r8 sc aol aom aop;refine go ?_;refine c_an 6 ?_;refine sf ?_;refine sf_ap (fun _ _ _ _=>by refine l_op (k_makeFunc (vf:=[]) (vc:=[.pointer (some ⟨w.heap.size,0,none⟩),.pointer (some ⟨apn.heap.size,0,none⟩)]) rfl rfl ?_);refine go ?_;exact finp) ?_
 refine sf_ah (fun v wz=>SeqV (ofP sO n d) (.func (.func 175) #[] #[.pointer (some ⟨w.heap.size,0,none⟩),.pointer (some ⟨apn.heap.size,0,none⟩)]) wz v) (hs:=fun _ _ _ k h=>h.ext k) (fun _ _ _ _=>?_) ?_;refine cl en1072 terms_ok ?_;rintro _ _ ao9 hsq;have aqb:=ao9.2;refine go ?_;exact fs ⟨aqb,hsq⟩;refine sf_ae (V:=.agg #[S (nS s.1),S (nS s.2)]) (fun _ _ aor aqc=>?_) ?_;obtain ⟨_,_,aqf,apz,ap0⟩:=(aqc 3 18 rfl rfl);have ⟨r8,aon⟩:=bf2 aor r8 aon;refine clb en1071 (hc:=cP (sum_ok hR hS apz ap0 en1132 (fun k hk W e=>hn1_ok hS (r8.ext e) (aon.ext e) (hR.bd k om) hqq om (by have:=hR.lt; omega) ((ht.ext (xt aop aor)).ext e)) (ht.ext (xt aop aor))) hr) (hk:=?_) (hv:=cons_eq rfl (cons_eq aqf rfl));rintro _ _ aoq rfl;have aqg:=aoq.2;refine go ?_;exact fs ⟨aqg,rfl⟩;refine sf_ah (fun v wz=>∃ b:Nat,v=.pointer (some ⟨b,0,none⟩)∧aqa.heap.size≤b∧Blk wz b 164 #[S ([]),S ([])]) (hs:=fun _ _ _ k ⟨b,e,l,h⟩=>⟨b,e,l,h.ext k⟩) (fun _ _ apa _=>?_) ?_;refine al inf1056 (fun _ apb aqh=>?_);have aqi:=apb.2;refine go ?_;exact fs ⟨aqi,⟨_,rfl,(by have:=bz apa; omega),aqh⟩⟩;refine sf ?_;intro _ _ apc aqj;have ⟨r8,sc,aol,aom,aon,aop⟩:=be5 apc.2 r8 sc aol aom aon aop;obtain ⟨_,_,_,ap5⟩:=(aqj 5 7 rfl rfl);have arq:=bt ap5;refine SA ap5 (fun _ aos aoo=>?_);have ⟨r8,sc,aol,aom,aon,aop,_⟩:=pl5 aos r8 sc aol aom aon aop;refine go ?_;refine c_an 15 ?_;refine sf ?_
 refine sf_ae (V:=.agg #[S (nS ((byP (tmP sO (ofP sO n d) (ofP sO n d)) 1 2).1)),S (nS ((byP (tmP sO (ofP sO n d) (ofP sO n d)) 1 2).2))]) (fun _ _ aot _=>?_) ?_;refine clb en1070 (hc:=spBy_ok (hqq.mono dc) dc dc dc (ht.ext (xt aop aot))) (hk:=?_);rintro _ _ aou rfl;have aqk:=aou.2;refine go ?_;exact fs ⟨aqk,rfl⟩;refine sf_ae (V:=.agg #[S (nS e1.1),S (nS e1.2)]) (fun _ _ aov _=>?_) ?_;refine cl en1031 (exp_ok hS he (ht.ext (xt aop aov))) ?_;rintro _ _ aow rfl;have aql:=aow.2;refine go ?_;exact fs ⟨aql,rfl⟩;refine sf ?_;refine sf_ae (V:=.agg #[S (nS ((piN pl,piN pl+1).1)),S (nS ((piN pl,piN pl+1).2))]) (fun _ _ aox _=>?_) ?_;refine cl en1104 (pi_ok hp (ht.ext (xt aop aox))) ?_;rintro _ _ aoy rfl;have aqm:=aoy.2;refine go ?_;exact fs ⟨aqm,rfl⟩;refine sf_ae (V:=.agg #[S (nS ((byP (piN pl,piN pl+1) 2 1).1)),S (nS ((byP (piN pl,piN pl+1) 2 1).2))]) (fun _ _ aoz _=>?_) ?_;refine clb en1070 (hc:=spBy_ok (⟨lt_pow_mono pi_bd dc,by have:=pi_bd (k:=pl); simp only; omega⟩ : Bk 190 (piN pl,piN pl+1)) dc dc dc (ht.ext (xt aop aoz))) (hk:=?_);rintro _ _ ao0 rfl;have aqn:=ao0.2;refine go ?_;exact fs ⟨aqn,rfl⟩;refine sf_ae (V:=.agg #[S (nS c.1),S (nS c.2)]) (fun _ _ ao1 _=>?_) ?_;refine cl en1103 (spRoot_ok hS hc (ht.ext (xt aop ao1))) ?_;rintro _ _ ao2 rfl;have aqo:=ao2.2;refine go ?_;exact fs ⟨aqo,rfl⟩
 refine sf_ae (V:=.agg #[S (nS ((tmP sO e1 c).1)),S (nS ((tmP sO e1 c).2))]) (fun _ _ ao3 _=>?_) ?_;refine cl en1074 (spTimes_ok hS heb hcb (ht.ext (xt aop ao3))) ?_;rintro _ _ ao4 rfl;have aqp:=ao4.2;refine go ?_;exact fs ⟨aqp,rfl⟩;refine sf ?_;intro _ _ ao5 _;have ⟨r8,sc,aol,aom,aon⟩:=bf5 ao5.2 r8 sc aol aom aon;have ⟨aoo,aop⟩:=be1 ao5.2 aoo aop;refine cl en1029 (spOver_ok hS hsb (tmP_bd hS.pos heb hcb) hm1 hm2 (ht.ext aop)) ?_;rintro _ _ ao6 rfl;have ⟨r8,sc,aol,aom,aon⟩:=bf5 ao6.2 r8 sc aol aom aon;have ⟨aoo,aop⟩:=be1 ao6.2 aoo aop;refine SA aol (fun _ ao7 aqq=>?_);have ⟨r8,sc,aom,aon,aoo,aop,_⟩:=pl5 ao7 r8 sc aom aon aoo aop;refine go ?_;refine f_out (v:=.agg #[S (nS ((ovP sO s (tmP sO e1 c)).1)),S (nS ((ovP sO s (tmP sO e1 c)).2))]) (res1  rfl ?_) aop rfl;refine res_cellA (t:=4) (cs:=[S (nS ((ovP sO s (tmP sO e1 c)).1)),S (nS ((ovP sO s (tmP sO e1 c)).2))]) (b:=ap1.heap.size) (o:=0) U1056 rfl sz1056 ?_ ?_;exact rfl;exact Blk.cells aqq (i:=0) rfl
theorem hp_1 {l:List UInt8}(h:(1:Int)≤((l.length:Nat) : Int)) : Value.bool (decide (l.take 1=[45]))=.bool (neg l):=by
  cases l with
  | nil=>simp at h
  | cons a t=>congr 1; simp only [neg,List.take_succ_cons,List.take_zero,List.cons.injEq,and_true]; cases hh:decide (a=45) <;> simp_all
theorem hp_0 {l:List UInt8}(h:¬ (1:Int)≤((l.length:Nat) : Int)) : Value.bool false=.bool (neg l):=by
  cases l with
  | nil=>rfl
  | cons a t=>simp at h; omega
theorem cut_t {l:List UInt8}(h:neg l=true) : l.drop 1=body l:=by
  have:=neg_cons h
  rw [this]; rfl
theorem len_neg {l:List UInt8}(h:neg l=true) : 1≤l.length:=by rw [neg_cons h]; simp
theorem neg_z {N:Int}(h:N<0) : neg (showI N)=true:=by rw [neg_showI]; exact decide_eq_true h
theorem pos_z {N:Int}(h:¬ N<0) : neg (showI N)=false:=by rw [neg_showI]; exact decide_eq_false h
theorem showN_nS (n:Nat) : showN n=nS n:=(body_nS n).symm.trans (by unfold nS; exact body_neg (neg_nS n))
theorem body_z (N:Int) : body (showI N)=nS N.natAbs:=by rw [body_showI,showN_nS]
theorem showI_nS {N:Int}(h:¬ N<0) : showI N=nS N.natAbs:=by unfold nS; congr 1; omega
def nrP (S pl:Nat) (N:Int)(d:Nat) : Option (Int × Int):=(hnP S pl N.natAbs d).map fun h=>if N<0 then miP (ofP S 1 2) h else zP (plP (ofP S 1 2) h)
theorem nr_inv {S pl d:Nat}{N:Int}{r:Int × Int}(h:nrP S pl N d=some r) : ∃ h,hnP S pl N.natAbs d=some h∧r=if N<0 then miP (ofP S 1 2) h else zP (plP (ofP S 1 2) h):=by
  unfold nrP at h
  cases hh:hnP S pl N.natAbs d with
  | none=>rw [hh] at h; cases h
  | some x=>rw [hh] at h; cases h; exact ⟨x,rfl,rfl⟩
theorem hn_bd {S pl n d:Nat}{r:N2}(hS:Sc S)(h:hnP S pl n d=some r) : Bk 190 r:=by
  obtain ⟨_,_,_,_,s,e,c,_,_,_,hs,_,h1,_,rfl⟩:=hn_inv h
  exact ovP_bd hS h1 hs
theorem of_bd {S n d:Nat}(hS:Sc S)(hn:n<10)(hd:0<d) : Bk 99 (ofP S n d):=by
  have h1:n*S<10 ^ 99:=by
    have:=hS.lt
    have h2:n*S≤10*S:=Nat.mul_le_mul_right _ om
    omega
  exact ⟨Nat.lt_of_le_of_lt (Nat.div_le_self _ _) h1,Nat.lt_of_le_of_lt (upn_le hd) h1⟩
theorem hasPrefixL_ok (l:List UInt8)(w:World) :
    Calls Tryz.prog 135 #[S l,S ([45])] w (Ret w fun v w'=>v=.bool (neg l)):=by
 refine f_in Tryz.func135 rfl ?_;refine go ?_;by_cases r8:((1:Nat) : Int)≤(((l).length:Nat) : Int);refine go ?_;refine l_op (k_lenL (l:=l) U9 rfl ?_);refine go ?_;refine l_op (k_lenLm (l:=[45]) (m:=1) U9 rfl rfl ?_);refine go ?_;refine l_op (k_lenLm (l:=[45]) (m:=1) U9 rfl rfl ?_);refine go ?_;refine l_op (k_sliceS (l:=l) (i:=0) (j:=(1)) U9 rfl (.inl ⟨rfl,rfl⟩) (.inr ⟨_,congrArg some rfl⟩) om om ?_);rw [show ((l).take ((1))).drop 0=(l).take ((1)) from rfl];refine go ?_;refine eqs (b:=[45]) ?_;refine go ?_;exact f_ret1 (t:=4) (v:=.bool (decide (((l).take ((1)))=([45])))) rfl (Ext.refl _) (hp_1 r8) rfl;refine go ?_;refine l_op (k_lenL (l:=l) U9 rfl ?_);refine go ?_;refine l_op (k_lenLm (l:=[45]) (m:=1) U9 rfl rfl ?_);refine go ?_;exact f_ret1 (t:=4) (v:=.bool false) rfl (Ext.refl _) (hp_0 r8) rfl
theorem hasPrefix_ok (l:List UInt8)(w:World) :
    Calls Tryz.prog 79 #[S l,S ([45])] w (Ret w fun v w'=>v=.bool (neg l)):=by
 refine f_in Tryz.func79 rfl ?_;refine go ?_;refine cl en158 (hasPrefixL_ok l _) ?_;rintro _ _ r8 rfl;have sc:=r8.2;refine go ?_;exact f_ret1 (t:=4) (v:=.bool (neg l)) rfl sc rfl rfl
theorem cutLT_ok {l:List UInt8}{w:World}(h:neg l=true) :
    Calls Tryz.prog 170 #[S l,S ([45])] w (Ret w fun v w'=>v=.tuple #[S (body l),.bool true]):=by
 refine f_in Tryz.func170 rfl ?_;refine go ?_;refine cl en158 (hasPrefixL_ok l _) ?_;rintro _ _ r8 rfl;have sc:=r8.2;refine go ?_;refine l_op (k_lenLm (l:=[45]) (m:=1) U9 rfl rfl ?_);refine l_op (k_sliceS (l:=l) (i:=(1)) (j:=(l).length) U9 rfl (.inr ⟨_,congrArg some rfl⟩) (.inl ⟨rfl,rfl⟩) (len_neg h) (Nat.le_refl _) ?_);rw [show ((l).take ((l).length)).drop ((1))=(l).drop ((1)) by rw [List.take_length]];refine go ?_;exact f_ret2 (t:=4) (u:=5) (v1:=S ((l).drop ((1)))) (v2:=.bool true) rfl sc (by rw [cut_t h]) rfl rfl
theorem cutT_ok {l:List UInt8}{w:World}(h:neg l=true) :
    Calls Tryz.prog 127 #[S l,S ([45])] w (Ret w fun v w'=>v=.tuple #[S (body l),.bool true]):=by
 refine f_in Tryz.func127 rfl ?_;refine go ?_;refine cl en1068 (cutLT_ok h) ?_;rintro _ _ r8 rfl;have sc:=r8.2;refine go ?_;exact f_ret2 (t:=4) (u:=5) (v1:=S (body l)) (v2:=.bool true) rfl sc rfl rfl rfl
theorem cutLF_ok {l:List UInt8}{w:World}(h:neg l=false) :
    Calls Tryz.prog 170 #[S l,S ([45])] w (Ret w fun v w'=>v=.tuple #[S l,.bool false]):=by
 refine f_in Tryz.func170 rfl ?_;refine go ?_;refine cl en158 (hasPrefixL_ok l _) ?_;rintro _ _ r8 rfl;have sc:=r8.2;refine go ?_;exact f_ret2 (t:=4) (u:=5) (v1:=S l) (v2:=.bool false) rfl sc rfl rfl rfl
theorem cutF_ok {l:List UInt8}{w:World}(h:neg l=false) :
    Calls Tryz.prog 127 #[S l,S ([45])] w (Ret w fun v w'=>v=.tuple #[S l,.bool false]):=by
 refine f_in Tryz.func127 rfl ?_;refine go ?_;refine cl en1068 (cutLF_ok h) ?_;rintro _ _ r8 rfl;have sc:=r8.2;refine go ?_;exact f_ret2 (t:=4) (u:=5) (v1:=S l) (v2:=.bool false) rfl sc rfl rfl rfl
theorem normal_ok {sO pl d:Nat}{N:Int}{r:Int × Int}{w:World}(hS:Sc sO)(hp:pl<81)(hr:nrP sO pl N d=some r)(ht:Tb w) :
    Calls Tryz.prog 75 #[.agg #[.int .i64 pl,S (nS sO)],.agg #[S (showI N),S (nS d)]] w (Ret w fun v w'=>v=.agg #[S (showI r.1),S (showI r.2)]):=by
 obtain ⟨h,hh,rfl⟩:=nr_inv hr;have hb:=hn_bd hS hh;have ho:=of_bd (n:=1) (d:=2) hS dc dc;by_cases hN:N<0;rw [if_pos hN];refine f_in Tryz.func75 rfl ?_;refine go ?_;refine bx (fun _ apx r8=>?_);have aoq:=apx.2;refine bx (fun apr aps sc=>?_);have ⟨r8,aoq⟩:=be1 aps.2 r8 aoq;refine al inf1056 (fun _ apn aom=>?_);have ⟨r8,sc,aoq⟩:=be2 apn.2 r8 sc aoq;refine go ?_;refine clb en1032 (hc:=spOfL_ok (n:=1) (d:=2) lit1 lit2 hS fi1 (fi_pow (k:=1) dc dc) dc (by rw [Nat.one_mul]; exact hS.fi) (ht.ext aoq)) (hk:=?_);rintro _ _ ao8 rfl;have ⟨r8,sc,aom,aoq⟩:=be3 ao8.2 r8 sc aom aoq;refine al inf1056 (fun _ ao9 apy=>?_);have ⟨r8,sc,aom,aoq⟩:=be3 ao9.2 r8 sc aom aoq;refine SA apy (fun _ aot aoo=>?_);have ⟨r8,sc,aom,aoq,_⟩:=pl3 aot r8 sc aom aoq;refine go ?_;refine cl en1028 (cEq (Y:=.tuple #[S (nS N.natAbs),.bool true]) (cutT_ok (neg_z hN)) (congrArg (fun l=>Value.tuple #[S l,.bool true]) (body_z _))) ?_;rintro _ _ aou rfl;have ⟨r8,sc,aom,aoo,aoq⟩:=be4 aou.2 r8 sc aom aoo aoq;refine go ?_;refine c_an 8 ?_;refine sf ?_;refine sf_ae (V:=.agg #[S (nS h.1),S (nS h.2)]) (fun _ _ aov _=>?_) ?_;refine cl en1095 (halfNormal_ok hS hp hh (ht.ext (xt aoq aov))) ?_;rintro _ _ aow rfl;have apz:=aow.2;refine go ?_;exact fs ⟨apz,rfl⟩;refine sf ?_;intro _ _ aox _;have ⟨r8,sc,aom,aoo,aoq⟩:=be4 aox.2 r8 sc aom aoo aoq;refine clb en1094 (hc:=spMinus_ok (ho.mono dc) (hb.mono dc) (ht.ext aoq)) (hk:=?_);rintro _ _ aoy rfl
 have ⟨r8,sc,aom,aoo,aoq⟩:=be4 aoy.2 r8 sc aom aoo aoq;refine SA aom (fun _ aoz ap0=>?_);have ⟨r8,sc,aoo,aoq,_⟩:=pl3 aoz r8 sc aoo aoq;refine go ?_;refine f_out (v:=.agg #[S (showI ((miP (ofP sO 1 2) h).1)),S (showI ((miP (ofP sO 1 2) h).2))]) (res1  rfl ?_) aoq rfl;refine res_cellA (t:=4) (cs:=[S (showI ((miP (ofP sO 1 2) h).1)),S (showI ((miP (ofP sO 1 2) h).2))]) (b:=apr.heap.size) (o:=0) U1056 rfl sz1056 ?_ ?_;exact rfl;exact Blk.cells ap0 (i:=0) rfl;rw [if_neg hN];refine f_in Tryz.func75 rfl ?_;refine go ?_;refine bx (fun _ ap1 aol=>?_);have aor:=ap1.2;refine bx (fun apu apv aon=>?_);have ⟨aol,aor⟩:=be1 apv.2 aol aor;refine al inf1056 (fun _ apq aop=>?_);have ⟨aol,aon,aor⟩:=be2 apq.2 aol aon aor;refine go ?_;refine clb en1032 (hc:=spOfL_ok (n:=1) (d:=2) lit1 lit2 hS fi1 (fi_pow (k:=1) dc dc) dc (by rw [Nat.one_mul]; exact hS.fi) (ht.ext aor)) (hk:=?_);rintro _ _ aph rfl;have ⟨aol,aon,aop,aor⟩:=be3 aph.2 aol aon aop aor;refine al inf1056 (fun _ api ap2=>?_);have ⟨aol,aon,aop,aor⟩:=be3 api.2 aol aon aop aor;refine SA ap2 (fun _ ao0 aos=>?_);have ⟨aol,aon,aop,aor,_⟩:=pl3 ao0 aol aon aop aor;refine go ?_;refine cl en1028 (cutF_ok (pos_z hN)) ?_;rintro _ _ ao1 rfl;have ⟨aol,aon,aop,aos,aor⟩:=be4 ao1.2 aol aon aop aos aor;refine go ?_;refine c_an 5 ?_;refine sf ?_;refine sf_ae (V:=.agg #[S (nS h.1),S (nS h.2)]) (fun _ _ ao2 _=>?_) ?_
 refine clb en1095 (hc:=show Calls Tryz.prog 129 #[.agg #[.int .i64 pl,S (nS sO)],.agg #[S (showI N),S (nS d)]] _ _ by rw [showI_nS hN]; exact halfNormal_ok hS hp hh (ht.ext (xt aor ao2))) (hk:=?_);rintro _ _ ao3 rfl;have ap3:=ao3.2;refine go ?_;exact fs ⟨ap3,rfl⟩;refine sf ?_;intro _ _ ao4 _;have ⟨aol,aon,aop,aos,aor⟩:=be4 ao4.2 aol aon aop aos aor;refine clb en1078 (hc:=spPlus_ok (by have:=hb.1; have:=ho.1; unfold Fi; omega) (by have:=hb.2; have:=ho.2; unfold Fi; omega) (ht.ext aor)) (hk:=?_);rintro _ _ ao5 rfl;have ⟨aol,aon,aop,aos,aor⟩:=be4 ao5.2 aol aon aop aos aor;refine SA aop (fun _ ao6 ap4=>?_);have ⟨aol,aon,aos,aor,_⟩:=pl3 ao6 aol aon aos aor;refine go ?_;refine f_out (v:=.agg #[S (nS ((plP (ofP sO 1 2) h).1)),S (nS ((plP (ofP sO 1 2) h).2))]) (res1  rfl ?_) aor rfl;refine res_cellA (t:=4) (cs:=[S (nS ((plP (ofP sO 1 2) h).1)),S (nS ((plP (ofP sO 1 2) h).2))]) (b:=apu.heap.size) (o:=0) U1056 rfl sz1056 ?_ ?_;exact rfl;exact Blk.cells ap4 (i:=0) rfl
theorem cmpI_swap (x y:Int) : cmpI x y = -cmpI y x:=by
  unfold cmpI; repeat' split
  all_goals first | rfl | omega
theorem cmpI_iff {a b c d:Int}(h1:a<b ↔ c<d)(h2:a=b ↔ c=d) : cmpI a b=cmpI c d:=by
  unfold cmpI
  by_cases h:a<b
  · rw [if_pos h,if_pos (h1.1 h)]
  · rw [if_neg h, if_neg (fun e => h (h1.2 e))]
    by_cases h' : a=b
    · rw [if_pos h',if_pos (h2.1 h')]
    · rw [if_neg h',if_neg (fun e=>h' (h2.2 e))]
theorem cmpI_sub {a b c d:Int}(h:a - b=c - d) : cmpI a b=cmpI c d:=cmpI_iff om om
theorem floor_lt {n1 d1 n2 d2:Int}(h1:0<d1)(h2:0<d2)(h:n1 / d1<n2 / d2) : n1*d2<n2*d1:=by
  have e1:=Int.lt_ediv_add_one_mul_self n1 h1
  have e2:=Int.ediv_mul_le n2 (show d2≠0 by omega)
  have e3:(n1 / d1+1)*d1≤(n2 / d2)*d1:=Int.mul_le_mul_of_nonneg_right om om
  have e4:n1*d2<(n2 / d2)*d1*d2:=Int.mul_lt_mul_of_pos_right om h2
  have e5:(n2 / d2)*d2*d1≤n2*d1:=Int.mul_le_mul_of_nonneg_right e2 om
  have e6:(n2 / d2)*d1*d2=(n2 / d2)*d2*d1:=by rw [Int.mul_assoc,Int.mul_comm d1 d2,← Int.mul_assoc]
  omega
theorem cq_ne {n1 d1 n2 d2:Int}(h1:0<d1)(h2:0<d2)(h:¬ cmpI (n1 / d1) (n2 / d2)=0) : cmpI (n1 / d1) (n2 / d2)=cmpI (n1*d2) (n2*d1):=by
  have hne:n1 / d1≠n2 / d2:=fun e=>h (cmpI_eq e)
  rcases Int.lt_or_gt_of_ne hne with hl | hl
  · rw [cmpI_lt hl,cmpI_lt (floor_lt h1 h2 hl)]
  · rw [cmpI_gt hl,cmpI_gt (floor_lt h2 h1 hl)]
theorem cmpI_zero {x y:Int}(h:cmpI x y=0) : x=y:=by
  unfold cmpI at h
  split at h
  · omega
  · split at h
    · assumption
    · omega
theorem cq_eq {n1 d1 n2 d2:Int}(h:cmpI (n1 / d1) (n2 / d2)=0) : cmpI (n1*d2) (n2*d1)=cmpI (n1 % d1*d2) (n2 % d2*d1):=by
  have e:=cmpI_zero h
  refine cmpI_sub ?_
  have a1:=Int.mul_ediv_add_emod n1 d1
  have a2:=Int.mul_ediv_add_emod n2 d2
  generalize n1 / d1=p at *; generalize n2 / d2=q at *; generalize n1 % d1=r at *; generalize n2 % d2=s at *
  subst e; subst a1; subst a2
  rw [Int.add_mul,Int.add_mul,show d1*p*d2=d2*p*d1 by rw [Int.mul_comm d1 p,Int.mul_comm d2 p,Int.mul_assoc,Int.mul_comm d1 d2,← Int.mul_assoc]]
  omega
theorem in64_sg {sg x y:Int}(h:sg=1 ∨ sg = -1) : In64 (sg*cmpI x y):=by
  have h1:cmpI x y≤1∧-1≤cmpI x y:=by unfold cmpI; split; omega; split <;> omega
  unfold In64; rcases h with rfl | rfl <;> omega
section
variable {N1 D1 N2 D2 n1 d1 n2 d2 sg : Int} (hi : cmpI (N1 * D2) (N2 * D1) = sg * cmpI (n1 * d2) (n2 * d1)) (h1 : 0 < d1) (h2 : 0 < d2)
include hi h1 h2
theorem cp_ne (h:¬ cmpI (n1 / d1) (n2 / d2)=0) : sg*cmpI (n1 / d1) (n2 / d2)=cmpI (N1*D2) (N2*D1):=by rw [hi,cq_ne h1 h2 h]
theorem cp_00 (h:cmpI (n1 / d1) (n2 / d2)=0)(hr:showI (n1 % d1)=[48])(hs:showI (n2 % d2)=[48]) : 0=cmpI (N1*D2) (N2*D1):=by
  rw [hi,cq_eq h,showI_zero.1 hr,showI_zero.1 hs]; simp [cmpI]
theorem cp_0n (h:cmpI (n1 / d1) (n2 / d2)=0)(hr:showI (n1 % d1)=[48])(hs:¬ showI (n2 % d2)=[48]) : -sg=cmpI (N1*D2) (N2*D1):=by
  have h0:n2 % d2≠0:=fun e=>hs (showI_zero.2 e)
  have h3:=Int.emod_nonneg n2 (show d2≠0 by omega)
  rw [hi,cq_eq h,showI_zero.1 hr,cmpI_lt (by rw [Int.zero_mul]; exact Int.mul_pos om h1)]; omega
theorem cp_n0 (h:cmpI (n1 / d1) (n2 / d2)=0)(hr:¬ showI (n1 % d1)=[48])(hs:showI (n2 % d2)=[48]) : sg=cmpI (N1*D2) (N2*D1):=by
  have h0:n1 % d1≠0:=fun e=>hr (showI_zero.2 e)
  have h3:=Int.emod_nonneg n1 (show d1≠0 by omega)
  rw [hi,cq_eq h,showI_zero.1 hs,cmpI_gt (by rw [Int.zero_mul]; exact Int.mul_pos om h2)]; omega
theorem cp_go (h:cmpI (n1 / d1) (n2 / d2)=0)(hr:¬ showI (n1 % d1)=[48])(hs:¬ showI (n2 % d2)=[48]) :
    cmpI (N1*D2) (N2*D1) = -sg*cmpI (d1*(n2 % d2)) (d2*(n1 % d1))∧0<n1 % d1∧0<n2 % d2:=by
  have h0:n1 % d1≠0:=fun e=>hr (showI_zero.2 e)
  have h3:=Int.emod_nonneg n1 (show d1≠0 by omega)
  have h4:n2 % d2≠0:=fun e=>hs (showI_zero.2 e)
  have h5:=Int.emod_nonneg n2 (show d2≠0 by omega)
  refine ⟨?_,by omega,by omega⟩
  rw [hi,cq_eq h,cmpI_swap (d1*_),Int.mul_comm d1,Int.mul_comm d2,Int.neg_mul_neg]
end
theorem fz_mod {n d:Int}(h:Fz d)(hd:0<d) : Fz (n % d):=by
  have h1:=Int.emod_nonneg n (show d≠0 by omega)
  have h2:=Int.emod_lt_of_pos n hd
  unfold Fz at *; omega
set_option maxRecDepth 100000 in
theorem rCmpZ_ok {N1 D1 N2 D2:Int}{w:World}(o1:okR (showI N1,showI D1)=true)(o2:okR (showI N2,showI D2)=true)(fN1:Fz N1)(fD1:Fz D1)(fN2:Fz N2)(fD2:Fz D2)(ht:Tb w) :
    Calls Tryz.prog 15 #[.agg #[S (showI N1),S (showI D1)],.agg #[S (showI N2),S (showI D2)]] w (Ret w fun v w'=>v=.int .i64 (cmpI (N1*D2) (N2*D1))):=by
 have P1:0<D1:=by have:=okR_pos o1; rwa [valZ_showI] at this
 have P2:0<D2:=by have:=okR_pos o2; rwa [valZ_showI] at this
 refine f_in Tryz.func15 rfl ?_;refine go ?_;refine bx (fun aoz arj ao3=>?_);have ao0:=arj.2;refine bx (fun _ ap5 ao5=>?_);have ⟨ao3,ao0⟩:=be1 ap5.2 ao3 ao0;refine go ?_;refine cl en82 (rValid_ok (showI N1) (showI D1) _ (ht.ext ao0)) ?_;rintro _ _ apj rfl;have ⟨ao3,ao5,ao0⟩:=be2 apj.2 ao3 ao5 ao0;refine go ?_;refine cl en82 (rValid_ok (showI N2) (showI D2) _ (ht.ext ao0)) ?_;rintro _ _ apk rfl;have ⟨ao3,ao5,ao0⟩:=be2 apk.2 ao3 ao5 ao0;refine go ?_;refine wpIn_label (n_then ?_);refine c_lab [(4,12),(21,73)] (fun kk e W=>∃ n1:Int,∃ d1:Int,∃ n2:Int,∃ d2:Int,∃ sg:Int,(d1.toNat=kk)∧(e 5=.int .i64 sg)∧(0<d1)∧(0<d2)∧(Fz n1)∧(Fz d1)∧(Fz n2)∧(Fz d2)∧(sg=1 ∨ sg = -1)∧(cmpI (N1*D2) (N2*D1)=sg*cmpI (n1*d2) (n2*d1))∧(Ext w W)∧(Blk W (w.heap.size) 25 #[S (showI n1),S (showI d1)])∧(Blk W (aoz.heap.size) 25 #[S (showI n2),S (showI d2)])) ((D1).toNat) ⟨N1,D1,N2,D2,1,rfl,rfl,P1,P2,fN1,fD1,fN2,fD2,(Or.inl rfl),(Int.one_mul _).symm,ao0,ao3,ao5⟩ ?_;rintro _ _ _ ⟨n1,d1,n2,d2,sg,rfl,ao9,p1,p2,fn1,fd1,fn2,fd2,hsg,hi,r8,hB1,hB2⟩;have auh:=bz r8;refine go ?_;refine cl en83 (cEq (Y:=.tuple #[S (showI (n1 / d1)),S (showI (n1 % d1)),.int .i64 0]) (iDiv_ok _ _ _ (ht.ext r8)) (congrArg resD (divI_Z fn1 fd1 (Int.ne_of_gt p1) (fz_div fn1 p1)))) ?_;rintro _ _ apl rfl;have ⟨hB1,hB2,r8⟩:=be2 apl.2 hB1 hB2 r8;refine go ?_
 refine cl en83 (cEq (Y:=.tuple #[S (showI (n2 / d2)),S (showI (n2 % d2)),.int .i64 0]) (iDiv_ok _ _ _ (ht.ext r8)) (congrArg resD (divI_Z fn2 fd2 (Int.ne_of_gt p2) (fz_div fn2 p2)))) ?_;rintro _ _ apm rfl;have ⟨hB1,hB2,r8⟩:=be2 apm.2 hB1 hB2 r8;refine go ?_;refine cl en84 (cEq (Y:=.int .i64 (cmpI (n1 / d1) (n2 / d2))) (iCmp_ok _ _ _) (congrArg (Value.int .i64) (cmpS_Z (fz_div fn1 p1) (fz_div fn2 p2)))) ?_;rintro _ ap6 apn rfl;have ⟨hB1,hB2,r8⟩:=be2 apn.2 hB1 hB2 r8;refine go ?_;by_cases ao1:(cmpI (n1 / d1) (n2 / d2))=0;refine go ?_;by_cases aoy:(showI (n1 % d1))=([48]);refine go ?_;refine eqs (b:=[48]) ?_;refine go ?_;refine eqs (b:=[48]) ?_;refine go ?_;by_cases apa:(showI (n2 % d2))=([48]);refine go ?_;exact f_ret1 (t:=4) (v:=.int .i64 0) rfl r8 (congrArg (Value.int .i64) (cp_00 hi p1 p2 ao1 aoy apa)) rfl;refine go ?_;refine eqs (b:=[48]) ?_;refine go ?_;refine l_op (k_neg (a:=sg) rfl (by unfold In64; omega) ?_);refine go ?_;exact f_ret1 (t:=4) (v:=.int .i64 (-sg)) rfl r8 (congrArg (Value.int .i64) (cp_0n hi p1 p2 ao1 aoy apa)) rfl;refine go ?_;refine eqs (b:=[48]) ?_;refine go ?_;refine eqs (b:=[48]) ?_;refine go ?_;refine eqs (b:=[48]) ?_;refine go ?_;by_cases ao6:(showI (n2 % d2))=([48]);refine go ?_;exact f_ret1 (t:=4) (v:=.int .i64 sg) rfl r8 (congrArg (Value.int .i64) (cp_n0 hi p1 p2 ao1 aoy ao6)) rfl;refine go ?_;have apb:=Ext.drew ap6
 refine c_st2 hmix 12 (fun e0 ls e W=>(∀ t,inB [64,65,66,67,68,69,70,71,72,73] t=false→e t=e0 t)∧(Ext w W)∧(ap6.heap.size≤W.heap.size)∧(ls 0=true→e 64=.pointer (some ⟨w.heap.size,1,none⟩))∧(ls 1=true→e 65=S (showI d1))∧(ls 2=true→e 66=S (showI (n1 % d1)))∧(ls 3=true→e 67=.agg #[S (showI d1),S (showI (n1 % d1))])∧(ls 4=true→e 68=.pointer (some ⟨aoz.heap.size,1,none⟩))∧(ls 5=true→e 69=S (showI d2))∧(ls 6=true→e 70=S (showI (n2 % d2)))∧(ls 7=true→e 71=.agg #[S (showI d2),S (showI (n2 % d2))])∧(ls 8=true→e 72=.int .i64 sg)∧(ls 9=true→e 73=.int .i64 (-sg))∧(ls 10=false→Blk W (w.heap.size) 25 #[S (showI n1),S (showI d1)])∧(ls 10=true→Blk W (w.heap.size) 25 #[S (showI d1),S (showI (n1 % d1))])∧(ls 11=false→Blk W (aoz.heap.size) 25 #[S (showI n2),S (showI d2)])∧(ls 11=true→Blk W (aoz.heap.size) 25 #[S (showI d2),S (showI (n2 % d2))])) ⟨(fun _ _=>rfl),(xt r8 apb),(bz apb),(ff rfl),(ff rfl),(ff rfl),(ff rfl),(ff rfl),(ff rfl),(ff rfl),(ff rfl),(ff rfl),(ff rfl),(fun _=>(be apb hB1)),(fun h =>ff rfl h),(fun _=>(be apb hB2)),(fun h =>ff rfl h)⟩ (by kernel_rfl) (by kernel_rfl) ?_ ?_;refine ⟨fun aun _ apc ark apd apo _=>?_,?_⟩;obtain ⟨ap7,r8,zst,sc,aol,aom,aon,aoo,aop,aoq,aor,aos,aot,aov,aow,aou,aox⟩:=ark;obtain ⟨aun,rfl⟩:=ovE ap7;have arl:apc 1=false:=(unl apd (i:=0) (j:=1) rfl apo)
 have ap8:apc 10=false:=(unl apd (i:=0) (j:=10) rfl apo);have ap9:apc 11=false:=(unl apd (i:=0) (j:=11) rfl apo);have auq:apc 3=false:=(unl apd (i:=1) (j:=3) rfl arl);have aur:=bz r8;have arm:=aov ap8;have arn:=aou ap9;refine go ?_;exact ⟨rfl,_,(act_put _ _ _ _ _).symm,(same_upd rfl ap7),r8,om,(fun _=>rfl),aol,aom,aon,aoo,aop,aoq,aor,aos,aot,(fun _=>arm),(fun aro=>ff ap8 aro),(fun _=>arn),(fun arp=>ff ap9 arp)⟩;refine ⟨fun arq _ ape arr apq apr ars=>?_,?_⟩;obtain ⟨art,r8,zst,sc,aol,aom,aon,aoo,aop,aoq,aor,aos,aot,aov,aow,aou,aox⟩:=arr;obtain ⟨arq,rfl⟩:=ovE art;have aru:ape 0=true:=(ars 0 rfl);have auv:ape 3=false:=(unl apq (i:=1) (j:=3) rfl apr);have aqa:ape 10=false:=(unl apq (i:=1) (j:=10) rfl apr);have aqb:ape 11=false:=(unl apq (i:=1) (j:=11) rfl apr);have arv:arq 64=.pointer (some ⟨w.heap.size,1,none⟩):=sc aru;have auw:=bz r8;have aqc:=aov aqa;have arw:=aou aqb;refine go ?_;exact ⟨rfl,_,(act_put _ _ _ _ _).symm,(same_upd rfl art),r8,om,sc,(fun _=>rfl),aom,aon,aoo,aop,aoq,aor,aos,aot,(fun _=>aqc),(fun arx=>ff aqa arx),(fun _=>arw),(fun ary=>ff aqb ary)⟩;refine ⟨fun auz _ aps arz apt apu _=>?_,?_⟩;obtain ⟨aqd,r8,zst,sc,aol,aom,aon,aoo,aop,aoq,aor,aos,aot,aov,aow,aou,aox⟩:=arz;obtain ⟨auz,rfl⟩:=ovE aqd;have au2:aps 3=false:=(unl apt (i:=2) (j:=3) rfl apu)
 have aqe:aps 10=false:=(unl apt (i:=2) (j:=10) rfl apu);have aqf:aps 11=false:=(unl apt (i:=2) (j:=11) rfl apu);have au3:=bz r8;have ar0:=aov aqe;have ar1:=aou aqf;refine go ?_;exact ⟨rfl,_,(act_put _ _ _ _ _).symm,(same_upd rfl aqd),r8,om,sc,aol,(fun _=>rfl),aon,aoo,aop,aoq,aor,aos,aot,(fun _=>ar0),(fun ar2=>ff aqe ar2),(fun _=>ar1),(fun ar3=>ff aqf ar3)⟩;refine ⟨fun aqg _ ao7 ar4 apv aqh aqi=>?_,?_⟩;obtain ⟨ar5,r8,zst,sc,aol,aom,aon,aoo,aop,aoq,aor,aos,aot,aov,aow,aou,aox⟩:=ar4;obtain ⟨aqg,rfl⟩:=ovE ar5;have ar6:ao7 2=true:=(aqi 2 rfl);have aqj:ao7 1=true:=(aqi 1 rfl);have au7:ao7 0=true:=(apv 1 0 rfl aqj);have aqk:ao7 10=false:=(unl apv (i:=3) (j:=10) rfl aqh);have aql:ao7 11=false:=(unl apv (i:=3) (j:=11) rfl aqh);have ar7:aqg 65=S (showI d1):=aol aqj;have ar8:aqg 66=S (showI (n1 % d1)):=aom ar6;have au8:=bz r8;have aqm:=aov aqk;have au9:=bt aqm;have aqn:=aou aql;have ava:=bt aqn;refine l_op (k_build (vs:=[(0,S (showI d1)),(1,S (showI (n1 % d1)))]) (cells:=#[S (showI d1),S (showI (n1 % d1))]) (pl:=[(0,1),(1,1)]) U36 inf36 (by kernel_rfl) (cons_eqp ar7 (cons_eqp ar8 rfl)) (by kernel_rfl) ?_);refine go ?_;exact ⟨rfl,_,(act_put _ _ _ _ _).symm,(same_upd rfl ar5),r8,om,sc,aol,aom,(fun _=>rfl),aoo,aop,aoq,aor,aos,aot,(fun _=>aqm),(fun ar9=>ff aqk ar9),(fun _=>aqn),(fun asa=>ff aql asa)⟩
 refine ⟨fun avd _ apw asb apx aqo _=>?_,?_⟩;obtain ⟨aqp,r8,zst,sc,aol,aom,aon,aoo,aop,aoq,aor,aos,aot,aov,aow,aou,aox⟩:=asb;obtain ⟨avd,rfl⟩:=ovE aqp;have asc:apw 5=false:=(unl apx (i:=4) (j:=5) rfl aqo);have aqq:apw 11=false:=(unl apx (i:=4) (j:=11) rfl aqo);have avg:apw 7=false:=(unl apx (i:=5) (j:=7) rfl asc);have avh:=bz r8;have asd:=aou aqq;refine go ?_;exact ⟨rfl,_,(act_put _ _ _ _ _).symm,(same_upd rfl aqp),r8,om,sc,aol,aom,aon,(fun _=>rfl),aop,aoq,aor,aos,aot,(fun ase=>aov ase),(fun asf=>aow asf),(fun _=>asd),(fun asg=>ff aqq asg)⟩;refine ⟨fun ash _ apy asi aqr aqs asj=>?_,?_⟩;obtain ⟨ask,r8,zst,sc,aol,aom,aon,aoo,aop,aoq,aor,aos,aot,aov,aow,aou,aox⟩:=asi;obtain ⟨ash,rfl⟩:=ovE ask;have asl:apy 4=true:=(asj 4 rfl);have avk:apy 7=false:=(unl aqr (i:=5) (j:=7) rfl aqs);have aqt:apy 11=false:=(unl aqr (i:=5) (j:=11) rfl aqs);have asm:ash 68=.pointer (some ⟨aoz.heap.size,1,none⟩):=aoo asl;have avl:=bz r8;have aqu:=aou aqt;refine go ?_;exact ⟨rfl,_,(act_put _ _ _ _ _).symm,(same_upd rfl ask),r8,om,sc,aol,aom,aon,aoo,(fun _=>rfl),aoq,aor,aos,aot,(fun aso=>aov aso),(fun asp=>aow asp),(fun _=>aqu),(fun asq=>ff aqt asq)⟩;refine ⟨fun avn _ aqv asr aqw aqx _=>?_,?_⟩;obtain ⟨aqy,r8,zst,sc,aol,aom,aon,aoo,aop,aoq,aor,aos,aot,aov,aow,aou,aox⟩:=asr
 obtain ⟨avn,rfl⟩:=ovE aqy;have avq:aqv 7=false:=(unl aqw (i:=6) (j:=7) rfl aqx);have aqz:aqv 11=false:=(unl aqw (i:=6) (j:=11) rfl aqx);have avr:=bz r8;have ass:=aou aqz;refine go ?_;exact ⟨rfl,_,(act_put _ _ _ _ _).symm,(same_upd rfl aqy),r8,om,sc,aol,aom,aon,aoo,aop,(fun _=>rfl),aor,aos,aot,(fun ast=>aov ast),(fun asu=>aow asu),(fun _=>ass),(fun asv=>ff aqz asv)⟩;refine ⟨fun aq0 _ apf asw aq1 asx aq2=>?_,?_⟩;obtain ⟨asy,r8,zst,sc,aol,aom,aon,aoo,aop,aoq,aor,aos,aot,aov,aow,aou,aox⟩:=asw;obtain ⟨aq0,rfl⟩:=ovE asy;have asz:apf 6=true:=(aq2 6 rfl);have aq3:apf 5=true:=(aq2 5 rfl);have avu:apf 4=true:=(aq1 5 4 rfl aq3);have aq4:apf 11=false:=(unl aq1 (i:=7) (j:=11) rfl asx);have as0:aq0 69=S (showI d2):=aop aq3;have as1:aq0 70=S (showI (n2 % d2)):=aoq asz;have avv:=bz r8;have aq5:=aou aq4;have avw:=bt aq5;refine l_op (k_build (vs:=[(0,S (showI d2)),(1,S (showI (n2 % d2)))]) (cells:=#[S (showI d2),S (showI (n2 % d2))]) (pl:=[(0,1),(1,1)]) U36 inf36 (by kernel_rfl) (cons_eqp as0 (cons_eqp as1 rfl)) (by kernel_rfl) ?_);refine go ?_;exact ⟨rfl,_,(act_put _ _ _ _ _).symm,(same_upd rfl asy),r8,om,sc,aol,aom,aon,aoo,aop,aoq,(fun _=>rfl),aos,aot,(fun as2=>aov as2),(fun as3=>aow as3),(fun _=>aq5),(fun as4=>ff aq4 as4)⟩;refine ⟨fun avy _ as5 as6 as7 as8 _=>?_,?_⟩
 obtain ⟨aq6,r8,zst,sc,aol,aom,aon,aoo,aop,aoq,aor,aos,aot,aov,aow,aou,aox⟩:=as6;obtain ⟨avy,rfl⟩:=ovE aq6;have av1:as5 9=false:=(unl as7 (i:=8) (j:=9) rfl as8);have av2:=bz r8;refine go ?_;exact ⟨rfl,_,(act_put _ _ _ _ _).symm,(same_upd rfl aq6),r8,om,sc,aol,aom,aon,aoo,aop,aoq,aor,(fun _=>rfl),aot,(fun as9=>aov as9),(fun ata=>aow ata),(fun atb=>aou atb),(fun atc=>aox atc)⟩;refine ⟨fun atd _ ate atf _ _ atg=>?_,?_⟩;obtain ⟨ath,r8,zst,sc,aol,aom,aon,aoo,aop,aoq,aor,aos,aot,aov,aow,aou,aox⟩:=atf;obtain ⟨atd,rfl⟩:=ovE ath;have ati:ate 8=true:=(atg 8 rfl);have atj:atd 72=.int .i64 (sg):=aos ati;have av6:=bz r8;refine l_op (k_neg (a:=sg) atj (by unfold In64; omega) ?_);refine go ?_;exact ⟨rfl,_,(act_put _ _ _ _ _).symm,(same_upd rfl ath),r8,om,sc,aol,aom,aon,aoo,aop,aoq,aor,aos,(fun _=>rfl),(fun atk=>aov atk),(fun atl=>aow atl),(fun atm=>aou atm),(fun atn=>aox atn)⟩;refine ⟨fun ato _ ao8 atp apg aq7 atq=>?_,?_⟩;obtain ⟨aq8,r8,zst,sc,aol,aom,aon,aoo,aop,aoq,aor,aos,aot,aov,aow,aou,aox⟩:=atp;obtain ⟨ato,rfl⟩:=ovE aq8;have apz:ao8 3=true:=(atq 3 rfl);have av8:ao8 2=true:=(apg 3 2 rfl apz);have atr:ao8 1=true:=(apg 3 1 rfl apz);have av9:ao8 0=true:=(apg 1 0 rfl atr);have aq9:ao8 11=false:=(unl apg (i:=10) (j:=11) rfl aq7)
 have att:ato 67=.agg #[S (showI d1),S (showI (n1 % d1))]:=aon apz;have awa:=bz r8;have ara:=aov aq7;have awb:=bt ara;have aph:=aou aq9;have awc:=bt aph;refine SA ara (fun _ ap0 atu=>?_);have ⟨aph,r8,_⟩:=pl1 ap0 aph r8;refine go ?_;exact ⟨rfl,undef,rfl,aq8,r8,om,sc,aol,aom,aon,aoo,aop,aoq,aor,aos,aot,(fun atv=>tf rfl atv),(fun _=>atu),(fun _=>aph),(fun atw=>ff aq9 atw)⟩;refine ⟨fun atx _ ao2 aty ao4 atz arb=>?_,?_⟩;obtain ⟨arc,r8,zst,sc,aol,aom,aon,aoo,aop,aoq,aor,aos,aot,aov,aow,aou,aox⟩:=aty;obtain ⟨atx,rfl⟩:=ovE arc;have ap1:ao2 10=true:=(arb 10 rfl);have ard:ao2 3=true:=(ao4 10 3 rfl ap1);have awi:ao2 2=true:=(ao4 3 2 rfl ard);have at0:ao2 1=true:=(ao4 3 1 rfl ard);have awj:ao2 0=true:=(ao4 1 0 rfl at0);have ap2:ao2 7=true:=(arb 7 rfl);have awk:ao2 6=true:=(ao4 7 6 rfl ap2);have at1:ao2 5=true:=(ao4 7 5 rfl ap2);have awl:ao2 4=true:=(ao4 5 4 rfl at1);have at2:atx 71=.agg #[S (showI d2),S (showI (n2 % d2))]:=aor ap2;have awm:=bz r8;have api:=aow ap1;have awn:=bt api;have arf:=aou atz;have awo:=bt arf;refine SA arf (fun _ ap3 at3=>?_);have ⟨api,r8,_⟩:=pl1 ap3 api r8;refine go ?_;exact ⟨rfl,undef,rfl,arc,r8,om,sc,aol,aom,aon,aoo,aop,aoq,aor,aos,aot,(fun at4=>tf ap1 at4),(fun _=>api),(fun at5=>tf rfl at5),(fun _=>at3)⟩;exact trivial;intro at6 _ _ ap4 at7
 obtain ⟨awv,r8,zst,sc,aol,aom,aon,aoo,aop,aoq,aor,aos,aot,aov,aow,aou,aox⟩:=at7;obtain ⟨at6,rfl⟩:=ovE awv;have aww:=bz r8;have arh:=aow (ap4 10 rfl);have awx:=bt arh;have ari:=aox (ap4 11 rfl);have awy:=bt ari;have at8:at6 73=.int .i64 (-sg):=(aot (ap4 9 rfl));refine go ?_;exact lend (hk:=by have:=Int.emod_lt_of_pos n1 p1; have:=Int.emod_nonneg n1 (Int.ne_of_gt p1); omega) ⟨d1,n1 % d1,d2,n2 % d2,-sg,rfl,rfl,(cp_go hi p1 p2 ao1 aoy ao6).2.1,(cp_go hi p1 p2 ao1 aoy ao6).2.2,fd1,(fz_mod fd1 p1),fd2,(fz_mod fd2 p2),om,(cp_go hi p1 p2 ao1 aoy ao6).1,r8,arh,ari⟩;refine go ?_;refine l_op (k_mul (a:=sg) (b:=cmpI (n1 / d1) (n2 / d2)) (c:=sg*cmpI (n1 / d1) (n2 / d2)) rfl rfl (in64_sg hsg) rfl ?_);refine go ?_;exact f_ret1 (t:=4) (v:=.int .i64 (sg*cmpI (n1 / d1) (n2 / d2))) rfl r8 (congrArg (Value.int .i64) (cp_ne hi p1 p2 ao1)) rfl
theorem itoa_int (n:Int) : Lib.itoa n=showI n:=by
  unfold Lib.itoa showI
  split
  · rw [decDigits_showN]
  · rw [decDigits_showN]; congr 1; omega
def qR (a b:Int) : R:=(showI (redN a b),showI (redD a b))
theorem makeR_q {a b:Int}(hb:b≠0) : makeR a b=some (qR a b):=by unfold makeR; rw [if_neg hb]; rfl
section
variable {w : World} {b : Nat} {x y : Int} {l m : List UInt8}
theorem wMul_ok (hB:Blk w b 72 #[.bool false])(ht:Tb w)(hl:l=showI x)(hm:m=showI y)(fx:Fz x)(fy:Fz y)(fz:Fz (x*y)) :
    Calls Tryz.prog 40 #[.pointer (some ⟨b,0,none⟩),S l,S m] w (RetA fun v w'=>w.grownBy w' (some b)∧Blk w' b 72 #[.bool false]∧v=S (showI (x*y))):=by
  have h:=mul_ok hB ht l m
  subst hl hm
  rw [mulI_Z fx fy fz] at h
  exact h
theorem wAdd_ok (hB:Blk w b 72 #[.bool false])(ht:Tb w)(hl:l=showI x)(hm:m=showI y)(fx:Fz x)(fy:Fz y)(fz:Fz (x+y)) :
    Calls Tryz.prog 60 #[.pointer (some ⟨b,0,none⟩),.func (.func 34) #[] #[],S l,S m] w (RetA fun v w'=>w.grownBy w' (some b)∧Blk w' b 72 #[.bool false]∧v=S (showI (x+y))):=by
  have h:=do_ok (o:=addI l m) hB ht en222 (fun W hW=>iAdd_ok _ _ W hW)
  subst hl hm
  rw [addI_Z fx fy fz] at h
  exact h
theorem wRed_ok (hB:Blk w b 72 #[.bool false])(ht:Tb w)(hl:l=showI x)(hm:m=showI y)(fx:Fz x)(fy:Fz y)(h0:y≠0) :
    Calls Tryz.prog 41 #[.pointer (some ⟨b,0,none⟩),S l,S m] w (RetA fun v w'=>w.grownBy w' (some b)∧(∃ q,Blk w' b 72 #[.bool q])∧v=.tuple #[.agg #[S (qR x y).1,S (qR x y).2],.int .i64 0]):=by
  have h:=red_ok hB ht l m
  subst hl hm
  rw [redW_spec fx.int fy.int,valZ_showI,valZ_showI,makeR_q h0] at h
  exact h
theorem wCk_ok (hB:Blk w b 72 #[.bool false])(ht:Tb w){x y:List UInt8}{A:Option Addr}{n c lo:Nat}(hr:Rw w lo A [S x,S y])(hn:1=n) (hAb : ∀ ad,A=some ad→ad.block≠b)(ho:okR (x,y)=true) :
    Calls Tryz.prog 39 #[.pointer (some ⟨b,0,none⟩),.slice A n c] w (RetA fun v w'=>w.grownBy w' (some b)∧Blk w' b 72 #[.bool false]∧v=.tuple #[]):=by
  have h:=check_ok (rs:=[(x,y)]) (c:=c) hB ht hr hn om hAb
  rw [show ckB false [(x,y)]=false by simp [ckB,ho]] at h
  exact h
end
def rdI (N D t:Int)(up:Bool) : Int:=if up=true∧¬ showI (N*t % D)=[48] then N*t / D+1 else N*t / D
def Qv (a b:Int) : Value:=.tuple #[.agg #[S (qR a b).1,S (qR a b).2],.int .i64 0]
theorem rd_1 {N D t:Int}{up:Bool}(h:up=true)(h0:¬ showI (N*t % D)=[48]) : Qv (N*t / D+1) t=Qv (rdI N D t up) t:=by unfold rdI; rw [if_pos ⟨h,h0⟩]
theorem rd_0 {N D t:Int}{up:Bool}(h0:showI (N*t % D)=[48]) : Qv (N*t / D) t=Qv (rdI N D t up) t:=by unfold rdI; rw [if_neg (fun e=>e.2 h0)]
theorem rd_d {N D t:Int}{up:Bool}(h:up=false) : Qv (N*t / D) t=Qv (rdI N D t up) t:=by unfold rdI; rw [if_neg (fun e=>by rw [h] at e; exact absurd e.1 dc)]
theorem fz_inc {N D:Int}(h:N.natAbs<10 ^ 199)(hd:0<D) : Fz (N / D+1):=by
  have h1:Fz (N / D):=fz_div (by unfold Fz; omega) hd
  have h2:(N / D).natAbs<10 ^ 199:=by
    rcases Int.le_total 0 N with h0 | h0
    · have h1 := Int.ediv_nonneg h0 (Int.le_of_lt hd)
      have h2:=Int.ediv_le_self (b:=D) h0
      omega
    · have h1 : N / D ≤ 0 := Int.ediv_nonpos_of_nonpos_of_neg h0 hd
      have h2:N≤N / D:=by
        refine Int.le_ediv_of_mul_le hd ?_
        have h7:0≤(-N)*(D - 1):=Int.mul_nonneg om om
        rw [Int.neg_mul,Int.mul_sub,Int.mul_one] at h7
        omega
      omega
  unfold Fz; omega
theorem rMakeZ_ok {l m:List UInt8}{a b:Int}{w:World}(hl:l=showI a)(hm:m=showI b)(fa:Fz a)(fb:Fz b)(h0:b≠0)(ht:Tb w) :
    Calls Tryz.prog 78 #[S l,S m] w (Ret w fun v w'=>v=.tuple #[.agg #[S (qR a b).1,S (qR a b).2],.int .i64 0]):=by
 subst hl hm;have ib:(!isInt (showI b))=false:=by rw [fb.int]; rfl
 refine f_in Tryz.func78 rfl ?_;refine go ?_;refine al inf36 (fun _ aor sc=>?_);have ht:=Tb.ext aor.2 ht;have r8:=aor.2;refine go ?_;refine cl en102 (iValid_ok (showI a) _) ?_;rintro _ _ aoo rfl;have ht:=Tb.ext aoo.2 ht;have ⟨sc,r8⟩:=be1 aoo.2 sc r8;refine go ?_;refine l_want (s:=10) rfl (congrArg Value.bool (congrArg Bool.not fa.int)) ?_;refine go ?_;refine l_want (s:=10) rfl (congrArg Value.bool (congrArg Bool.not fa.int)) ?_;refine cl en102 (iValid_ok (showI b) _) ?_;rintro _ aol aop rfl;have ht:=Tb.ext aop.2 ht;have ⟨sc,r8⟩:=be1 aop.2 sc r8;refine l_want (s:=10) rfl (congrArg Value.bool (congrArg Bool.not fa.int)) ?_;refine go ?_;refine l_op (k_pick (t:=false) (v:=.bool (!(isInt (showI b)))) (congrArg Value.bool (congrArg Bool.not fa.int)) rfl ?_);refine l_op (k_build (vs:=[(0,.bool (!(isInt (showI b))))]) (cells:=#[.bool (!(isInt (showI b)))]) (pl:=[(0,1)]) U235 inf235 (by kernel_rfl) rfl (by kernel_rfl) ?_);refine bx (fun aou aoq aov=>?_);have ht:=Tb.ext aoq.2 ht;have ⟨sc,r8⟩:=be1 aoq.2 sc r8;refine go ?_;have aos:Blk aou (aol.heap.size) 72 #[.bool false]:=by have h:=aov; rw [ib] at h; exact h
 refine go ?_;refine l_op (k_callA (vs:=[.pointer (some ⟨aol.heap.size,0,none⟩),S (showI a),S (showI b)]) en225 rfl (wRed_ok aos ht rfl rfl fa fb h0) ?_);rintro _ _ ⟨aom,⟨ao3,aot⟩,rfl⟩;have sc:=Blk.gr aom (by simp; omega) sc;have r8:=low_gr r8 aom (bz r8) (fun g hgg=>by cases hgg; omega);have ao4:=aom.size;refine go ?_;refine SA sc (fun _ aon aow=>?_);have ⟨aot,r8,_⟩:=pl1 aon aot r8;refine go ?_;refine f_out (v:=.tuple #[.agg #[S (qR a b).1,S (qR a b).2],.int .i64 0]) (res2 (r1:=.cell 4 25) (r2:=.tmp 5) rfl ?_ ?_) r8 rfl;refine res_cellA (t:=4) (cs:=[S (qR a b).1,S (qR a b).2]) (b:=w.heap.size) (o:=0) U36 rfl sz36 ?_ ?_;exact rfl;exact Blk.cells aow (i:=0) rfl;exact res_tmp (t:=5) (by exact rfl) _
theorem fromZ_ok {n:Int}{w:World}(hn:In64 n)(ht:Tb w) :
    Calls Tryz.prog 187 #[.int .i64 n] w (Ret w fun v w'=>v=S (showI n)):=by
 have h1 : -9223372036854775808≤n:=by unfold In64 at hn; omega
 have h2:n≤9223372036854775807:=by unfold In64 at hn; omega
 refine f_in Tryz.func187 rfl ?_;refine go ?_;refine cl en131 (cEq (Y:=S (showI n)) (itoa_ok _ _ h1 h2 (ht.ext (Ext.refl _))) (congrArg S (itoa_int n))) ?_;rintro _ _ r8 rfl;have sc:=r8.2;refine go ?_;exact f_ret1 (t:=2) (v:=S (showI n)) rfl sc rfl rfl
theorem fz64 {n:Int}(h:In64 n) : Fz n:=by unfold In64 at h; unfold Fz; omega
theorem rOfZ_ok {a b:Int}{w:World}(ha:In64 a)(hb:In64 b)(h0:b≠0)(ht:Tb w) :
    Calls Tryz.prog 155 #[.int .i64 a,.int .i64 b] w (Ret w fun v w'=>v=.tuple #[.agg #[S (qR a b).1,S (qR a b).2],.int .i64 0]):=by
 refine f_in Tryz.func155 rfl ?_;refine go ?_;refine al inf36 (fun _ aop sc=>?_);have r8:=aop.2;refine go ?_;refine cl en1067 (fromZ_ok ha (ht.ext r8)) ?_;rintro _ _ aol rfl;have ⟨sc,r8⟩:=be1 aol.2 sc r8;refine go ?_;refine cl en1067 (fromZ_ok hb (ht.ext r8)) ?_;rintro _ _ aom rfl;have ⟨sc,r8⟩:=be1 aom.2 sc r8;refine cl en1046 (rMakeZ_ok rfl rfl (fz64 ha) (fz64 hb) h0 (ht.ext r8)) ?_;rintro _ _ aon rfl;have ⟨sc,r8⟩:=be1 aon.2 sc r8;refine go ?_;refine SA sc (fun _ aoo aoq=>?_);have r8:=plw aoo r8;have aoz:=psz aoo;refine go ?_;refine f_out (v:=.tuple #[.agg #[S (qR a b).1,S (qR a b).2],.int .i64 0]) (res2 (r1:=.cell 4 25) (r2:=.tmp 5) rfl ?_ ?_) r8 rfl;refine res_cellA (t:=4) (cs:=[S (qR a b).1,S (qR a b).2]) (b:=w.heap.size) (o:=0) U36 rfl sz36 ?_ ?_;exact rfl;exact Blk.cells aoq (i:=0) rfl;exact res_tmp (t:=5) (by exact rfl) _
theorem rRound_ok {N D:Int}{pl:Nat}{up:Bool}{w:World}(ho:okR (showI N,showI D)=true)(fN:Fz N)(fD:Fz D)(hp:pl≤30)(hNT:(N*((10 ^ pl:Nat) : Int)).natAbs<10 ^ 199) (ht:Tb w) :
    Calls Tryz.prog 186 #[.agg #[S (showI N),S (showI D)],.int .i64 pl,.bool up] w (Ret w fun v w'=>v=Qv (rdI N D (((10 ^ pl:Nat) : Int)) up) (((10 ^ pl:Nat) : Int))):=by
 have h10:((10 ^ pl:Nat) : Int)≠0:=by have:=Nat.pow_pos (n:=pl) (show 0<10 by decide); omega
 have pD:0<D:=by have:=okR_pos ho; rwa [valZ_showI] at this
 have fNT:Fz (N*((10 ^ pl:Nat) : Int)):=(by unfold Fz; omega);have ao5:pl<200:=om;have fT:Fi (10 ^ pl):=Nat.pow_lt_pow_right dc om;refine f_in Tryz.func186 rfl ?_;refine go ?_;refine bx (fun aoo apa sc=>?_);have ht:=Tb.ext apa.2 ht;have r8:=apa.2;refine al inf36 (fun aom ao9 aol=>?_);have ht:=Tb.ext ao9.2 ht;have ⟨sc,r8⟩:=be1 ao9.2 sc r8;refine go ?_;refine l_op (k_build (vs:=[(0,.bool (decide (30<(pl:Int))))]) (cells:=#[.bool (decide (30<(pl:Int)))]) (pl:=[(0,1)]) U235 inf235 (by kernel_rfl) rfl (by kernel_rfl) ?_);refine bx (fun apb ao6 apg=>?_);have ht:=Tb.ext ao6.2 ht;have ⟨sc,aol,r8⟩:=be2 ao6.2 sc aol r8;refine go ?_;have ao7:Blk apb (aom.heap.size) 72 #[.bool false]:=by have h:=apg; rw [decide_eq_false om] at h; exact h
 refine go ?_;refine BS (fun _ aop _ aph=>?_);have ht:=Tb.ext aop ht;have ⟨sc,aol,ao7,r8⟩:=be3 aop sc aol ao7 r8;have apn:=bz aop;refine l_op (k_callA (vs:=[.pointer (some ⟨aom.heap.size,0,none⟩),.slice (some ⟨apb.heap.size,0,none⟩) 1 1]) en223 rfl (wCk_ok ao7 ht (Rw.of_own aph) rfl (fun _ e=>by cases e; simp; omega) ho) ?_);rintro _ _ ⟨aor,aos,rfl⟩;have ht:=Tb.gr aor ao7 dc ht;have sc:=Blk.gr aor (by simp; omega) sc;have aol:=Blk.gr aor (by simp; omega) aol;have r8:=low_gr r8 aor (bz r8) (fun g hgg=>by cases hgg; omega);have apr:=aor.size;refine go ?_;refine clb en132 (hc:=repeat_ok [48] pl _ om dc) (hk:=?_);rintro _ _ aot rfl;have ht:=Tb.ext aot.2 ht;have ⟨sc,aol,aos,r8⟩:=be3 aot.2 sc aol aos r8;refine l_op (k_addS (a:=[49]) (b:=Lib.repeatL [48] pl) rfl rfl (by rw [zeros_str]; simp; omega) ?_);refine go ?_;refine l_op (k_callA (vs:=[.pointer (some ⟨aom.heap.size,0,none⟩),S (showI N),S (([49]) ++ (Lib.repeatL [48] pl))]) en224 rfl (wMul_ok aos ht rfl (one_str ao5) fN fT.z fNT) ?_);rintro _ _ ⟨aou,aov,rfl⟩;have ht:=Tb.gr aou aos dc ht;have sc:=Blk.gr aou (by simp; omega) sc;have aol:=Blk.gr aou (by simp; omega) aol;have r8:=low_gr r8 aou (bz r8) (fun g hgg=>by cases hgg; omega);have apw:=aou.size;refine go ?_
 refine cl en83 (cEq (Y:=.tuple #[S (showI (N*(((10 ^ pl:Nat) : Int)) / D)),S (showI (N*(((10 ^ pl:Nat) : Int)) % D)),.int .i64 0]) (iDiv_ok _ _ _ ht) (congrArg resD (divI_Z fNT fD (Int.ne_of_gt pD) (fz_div fNT pD)))) ?_;rintro _ _ aow rfl;have ht:=Tb.ext aow.2 ht;have ⟨sc,aol,aov,r8⟩:=be3 aow.2 sc aol aov r8;refine go ?_;refine SO aov (fun _ aox aoq=>?_);have ht:=Tb.put aox aov dc ht;have ⟨sc,aol,r8,_⟩:=pl2 aox sc aol r8;refine go ?_;rcases Bool.eq_false_or_eq_true up with aon | aon;refine go ?_;refine nes (b:=[48]) ?_;refine go ?_;by_cases ao8:(showI (N*(((10 ^ pl:Nat) : Int)) % D))=([48]);refine go ?_;refine l_op (k_callA (vs:=[.pointer (some ⟨aom.heap.size,0,none⟩),S (showI (N*(((10 ^ pl:Nat) : Int)) / D)),S (([49]) ++ (Lib.repeatL [48] pl))]) en225 rfl (wRed_ok aoq ht rfl (one_str ao5) (fz_div fNT pD) fT.z h10) ?_);rintro _ _ ⟨aoy,⟨ap3,apc⟩,rfl⟩;have sc:=Blk.gr aoy (by simp; omega) sc;have aol:=Blk.gr aoy (by simp; omega) aol;have r8:=low_gr r8 aoy (bz r8) (fun g hgg=>by cases hgg; omega);have ap4:=aoy.size;refine go ?_;refine SA aol (fun _ aoz api=>?_);have ⟨sc,apc,r8,_⟩:=pl2 aoz sc apc r8;refine go ?_;refine f_out (v:=.tuple #[.agg #[S ((qR (N*(((10 ^ pl:Nat) : Int)) / D) (((10 ^ pl:Nat) : Int))).1),S ((qR (N*(((10 ^ pl:Nat) : Int)) / D) (((10 ^ pl:Nat) : Int))).2)],.int .i64 0]) (res2 (r1:=.cell 6 25) (r2:=.tmp 7) rfl ?_ ?_) r8 (rd_0 ao8)
 refine res_cellA (t:=6) (cs:=[S ((qR (N*(((10 ^ pl:Nat) : Int)) / D) (((10 ^ pl:Nat) : Int))).1),S ((qR (N*(((10 ^ pl:Nat) : Int)) / D) (((10 ^ pl:Nat) : Int))).2)]) (b:=aoo.heap.size) (o:=0) U36 rfl sz36 ?_ ?_;exact rfl;exact Blk.cells api (i:=0) rfl;exact res_tmp (t:=7) (by exact rfl) _;refine go ?_;refine l_op (k_callA (vs:=[.pointer (some ⟨aom.heap.size,0,none⟩),.func (.func 34) #[] #[],S (showI (N*(((10 ^ pl:Nat) : Int)) / D)),S ([49])]) en227 rfl (wAdd_ok aoq ht rfl lit1 (fz_div fNT pD) (by unfold Fz; decide) (fz_inc hNT pD)) ?_);rintro _ _ ⟨ao0,apd,rfl⟩;have ht:=Tb.gr ao0 aoq dc ht;have sc:=Blk.gr ao0 (by simp; omega) sc;have aol:=Blk.gr ao0 (by simp; omega) aol;have r8:=low_gr r8 ao0 (bz r8) (fun g hgg=>by cases hgg; omega);have ap9:=ao0.size;refine go ?_;refine l_op (k_callA (vs:=[.pointer (some ⟨aom.heap.size,0,none⟩),S (showI (N*(((10 ^ pl:Nat) : Int)) / D+1)),S (([49]) ++ (Lib.repeatL [48] pl))]) en225 rfl (wRed_ok apd ht rfl (one_str ao5) (fz_inc hNT pD) fT.z h10) ?_);rintro _ _ ⟨ao1,⟨aqc,ape⟩,rfl⟩;have sc:=Blk.gr ao1 (by simp; omega) sc;have aol:=Blk.gr ao1 (by simp; omega) aol;have r8:=low_gr r8 ao1 (bz r8) (fun g hgg=>by cases hgg; omega);have aqd:=ao1.size;refine go ?_;refine SA aol (fun _ ao2 apj=>?_);have ⟨sc,ape,r8,_⟩:=pl2 ao2 sc ape r8;refine go ?_
 refine f_out (v:=.tuple #[.agg #[S ((qR (N*(((10 ^ pl:Nat) : Int)) / D+1) (((10 ^ pl:Nat) : Int))).1),S ((qR (N*(((10 ^ pl:Nat) : Int)) / D+1) (((10 ^ pl:Nat) : Int))).2)],.int .i64 0]) (res2 (r1:=.cell 6 25) (r2:=.tmp 7) rfl ?_ ?_) r8 (rd_1 aon ao8);refine res_cellA (t:=6) (cs:=[S ((qR (N*(((10 ^ pl:Nat) : Int)) / D+1) (((10 ^ pl:Nat) : Int))).1),S ((qR (N*(((10 ^ pl:Nat) : Int)) / D+1) (((10 ^ pl:Nat) : Int))).2)]) (b:=aoo.heap.size) (o:=0) U36 rfl sz36 ?_ ?_;exact rfl;exact Blk.cells apj (i:=0) rfl;exact res_tmp (t:=7) (by exact rfl) _;refine go ?_;refine l_op (k_callA (vs:=[.pointer (some ⟨aom.heap.size,0,none⟩),S (showI (N*(((10 ^ pl:Nat) : Int)) / D)),S (([49]) ++ (Lib.repeatL [48] pl))]) en225 rfl (wRed_ok aoq ht rfl (one_str ao5) (fz_div fNT pD) fT.z h10) ?_);rintro _ _ ⟨ao3,⟨aqi,apf⟩,rfl⟩;have sc:=Blk.gr ao3 (by simp; omega) sc;have aol:=Blk.gr ao3 (by simp; omega) aol;have r8:=low_gr r8 ao3 (bz r8) (fun g hgg=>by cases hgg; omega);have aqj:=ao3.size;refine go ?_;refine SA aol (fun _ ao4 apk=>?_);have ⟨sc,apf,r8,_⟩:=pl2 ao4 sc apf r8;refine go ?_;refine f_out (v:=.tuple #[.agg #[S ((qR (N*(((10 ^ pl:Nat) : Int)) / D) (((10 ^ pl:Nat) : Int))).1),S ((qR (N*(((10 ^ pl:Nat) : Int)) / D) (((10 ^ pl:Nat) : Int))).2)],.int .i64 0]) (res2 (r1:=.cell 6 25) (r2:=.tmp 7) rfl ?_ ?_) r8 (rd_d aon)
 refine res_cellA (t:=6) (cs:=[S ((qR (N*(((10 ^ pl:Nat) : Int)) / D) (((10 ^ pl:Nat) : Int))).1),S ((qR (N*(((10 ^ pl:Nat) : Int)) / D) (((10 ^ pl:Nat) : Int))).2)]) (b:=aoo.heap.size) (o:=0) U36 rfl sz36 ?_ ?_;exact rfl;exact Blk.cells apk (i:=0) rfl;exact res_tmp (t:=7) (by exact rfl) _
theorem rDown_ok {N D:Int}{pl:Nat}{w:World}(ho:okR (showI N,showI D)=true)(fN:Fz N)(fD:Fz D)(hp:pl≤30)(hNT:(N*((10 ^ pl:Nat) : Int)).natAbs<10 ^ 199) (ht:Tb w) :
    Calls Tryz.prog 153 #[.agg #[S (showI N),S (showI D)],.int .i64 pl] w (Ret w fun v w'=>v=.tuple #[.agg #[S ((qR (rdI N D (((10 ^ pl:Nat) : Int)) false) (((10 ^ pl:Nat) : Int))).1),S ((qR (rdI N D (((10 ^ pl:Nat) : Int)) false) (((10 ^ pl:Nat) : Int))).2)],.int .i64 0]):=by
 refine f_in Tryz.func153 rfl ?_;refine go ?_;refine bx (fun aoo aoq sc=>?_);have r8:=aoq.2;refine al inf36 (fun _ aop aol=>?_);have ⟨sc,r8⟩:=be1 aop.2 sc r8;refine go ?_;refine cl en1129 (rRound_ok ho fN fD hp hNT (ht.ext r8)) ?_;rintro _ _ aom rfl;have ⟨sc,aol,r8⟩:=be2 aom.2 sc aol r8;refine go ?_;refine SA aol (fun _ aon aor=>?_);have ⟨sc,r8,_⟩:=pl1 aon sc r8;refine go ?_;refine f_out (v:=.tuple #[.agg #[S ((qR (rdI N D (((10 ^ pl:Nat) : Int)) false) (((10 ^ pl:Nat) : Int))).1),S ((qR (rdI N D (((10 ^ pl:Nat) : Int)) false) (((10 ^ pl:Nat) : Int))).2)],.int .i64 0]) (res2 (r1:=.cell 4 25) (r2:=.tmp 5) rfl ?_ ?_) r8 rfl;refine res_cellA (t:=4) (cs:=[S ((qR (rdI N D (((10 ^ pl:Nat) : Int)) false) (((10 ^ pl:Nat) : Int))).1),S ((qR (rdI N D (((10 ^ pl:Nat) : Int)) false) (((10 ^ pl:Nat) : Int))).2)]) (b:=aoo.heap.size) (o:=0) U36 rfl sz36 ?_ ?_;exact rfl;exact Blk.cells aor (i:=0) rfl;exact res_tmp (t:=5) (by exact rfl) _
theorem rUp_ok {N D:Int}{pl:Nat}{w:World}(ho:okR (showI N,showI D)=true)(fN:Fz N)(fD:Fz D)(hp:pl≤30)(hNT:(N*((10 ^ pl:Nat) : Int)).natAbs<10 ^ 199) (ht:Tb w) :
    Calls Tryz.prog 154 #[.agg #[S (showI N),S (showI D)],.int .i64 pl] w (Ret w fun v w'=>v=.tuple #[.agg #[S ((qR (rdI N D (((10 ^ pl:Nat) : Int)) true) (((10 ^ pl:Nat) : Int))).1),S ((qR (rdI N D (((10 ^ pl:Nat) : Int)) true) (((10 ^ pl:Nat) : Int))).2)],.int .i64 0]):=by
 refine f_in Tryz.func154 rfl ?_;refine go ?_;refine bx (fun aoo aoq sc=>?_);have r8:=aoq.2;refine al inf36 (fun _ aop aol=>?_);have ⟨sc,r8⟩:=be1 aop.2 sc r8;refine go ?_;refine cl en1129 (rRound_ok ho fN fD hp hNT (ht.ext r8)) ?_;rintro _ _ aom rfl;have ⟨sc,aol,r8⟩:=be2 aom.2 sc aol r8;refine go ?_;refine SA aol (fun _ aon aor=>?_);have ⟨sc,r8,_⟩:=pl1 aon sc r8;refine go ?_;refine f_out (v:=.tuple #[.agg #[S ((qR (rdI N D (((10 ^ pl:Nat) : Int)) true) (((10 ^ pl:Nat) : Int))).1),S ((qR (rdI N D (((10 ^ pl:Nat) : Int)) true) (((10 ^ pl:Nat) : Int))).2)],.int .i64 0]) (res2 (r1:=.cell 4 25) (r2:=.tmp 5) rfl ?_ ?_) r8 rfl;refine res_cellA (t:=4) (cs:=[S ((qR (rdI N D (((10 ^ pl:Nat) : Int)) true) (((10 ^ pl:Nat) : Int))).1),S ((qR (rdI N D (((10 ^ pl:Nat) : Int)) true) (((10 ^ pl:Nat) : Int))).2)]) (b:=aoo.heap.size) (o:=0) U36 rfl sz36 ?_ ?_;exact rfl;exact Blk.cells aor (i:=0) rfl;exact res_tmp (t:=5) (by exact rfl) _
end Go.Proofs.YtonigegpknhdnaaGreatDoor
