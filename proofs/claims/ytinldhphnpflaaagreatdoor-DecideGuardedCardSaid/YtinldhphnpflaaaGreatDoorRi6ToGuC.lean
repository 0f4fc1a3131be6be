/- Part of the proof of a statement about decisions. -/
import Derived.Test.YtinldhphnpflaaaGreatDoorIsQToRi5
import Derived.Test.YtinldhphnpflaaaGreatDoorEngPToEngH
import Derived.Test.YtinldhphnpflaaaGreatDoorRatQToSp14
set_option linter.all false
namespace Go.Proofs.YtinldhphnpflaaaGreatDoor
open Go Go.Eng Go.RowKit
attribute [local irreducible] wpListIn Code.wpIn Oper.wpIn Exit.then Exit.inBlock Exit.noGoto
set_option maxHeartbeats 40000000
theorem krRi6 {p:Prop}(h:p:=by kernel_rfl):p:=h
theorem q9l9:Q9 9 1:=⟨by decide,by decide,by decide⟩
theorem q9m9:Q9 (-9) 1:=⟨by decide,by decide,by decide⟩
set_option maxRecDepth 100000 in
theorem tshare_ok {a b0 ca cb za zb:Int}{b bm bp bn bf pl:Nat}{Gf:R->R×R}{w:World}(qa:Q9 a b0)(qc:Q9 ca cb)(qz:Q9 za zb)(hca:minQ 9 1 a b0=qR ca cb)(hza:maxQ (-9) 1 ca cb=qR za zb)(hbm:Blk w bm 180 #[.map (some b)])(hbp:Blk w bp 3 #[.int .i64 pl])(hbn:Blk w bn 25 #[S (qR 9 1).1,S (qR 9 1).2])(hbf:Blk w bf 67 #[.func (.func 154) #[] #[pT bm,pT bp]])(hM:Mpb w b (ivV Gf))(hFd:∀W,Tb W->CL 155 #[QV (flI za zb (tenI 6)) (tenI 6),.int .i64 pl] W (Ret W λv _=>v=.tuple #[.agg #[S ((Gf (qR (flI za zb (tenI 6)) (tenI 6))).1.1),S ((Gf (qR (flI za zb (tenI 6)) (tenI 6))).1.2),S ((Gf (qR (flI za zb (tenI 6)) (tenI 6))).2.1),S ((Gf (qR (flI za zb (tenI 6)) (tenI 6))).2.2)],.int .i64 0]))(hFu:∀W,Tb W->CL 155 #[QV (clI za zb (tenI 6)) (tenI 6),.int .i64 pl] W (Ret W λv _=>v=.tuple #[.agg #[S ((Gf (qR (clI za zb (tenI 6)) (tenI 6))).1.1),S ((Gf (qR (clI za zb (tenI 6)) (tenI 6))).1.2),S ((Gf (qR (clI za zb (tenI 6)) (tenI 6))).2.1),S ((Gf (qR (clI za zb (tenI 6)) (tenI 6))).2.2)],.int .i64 0]))(ht:Tb w):
    CL 156 #[QV a b0,pT bn,pT bf] w (RetA λv w'=>w.grownBy w' (some b)∧Mpb w' b (ivV Gf)∧v=.agg #[S ((Gf (qR (flI za zb (tenI 6)) (tenI 6))).1.1),S ((Gf (qR (flI za zb (tenI 6)) (tenI 6))).1.2),S ((Gf (qR (clI za zb (tenI 6)) (tenI 6))).2.1),S ((Gf (qR (clI za zb (tenI 6)) (tenI 6))).2.2)]):=by
 have zbm:=bt hbm;have nbm:=Mpb.ne hM hbm;have zbp:=bt hbp;have nbp:=Mpb.ne hM hbp;have zbn:=bt hbn;have nbn:=Mpb.ne hM hbn;have zbf:=bt hbf;have nbf:=Mpb.ne hM hbf;have G:=World.grownBy.refl w (some b);have zm:=Mpb.lt hM;refine f_inA Tryz.func156 rfl ?_;refine go ?_;refine bx (λapg ape apy=>?_);have⟨hbm,hbp,hbn,hbf⟩:=bf4 ape.2 hbm hbp hbn hbf;have hM:=Mpb.ext ape.2 hM;have ht:=Tb.ext ape.2 ht;have G:=gb_ext G ape.2;refine al inf1032 (λapz ao8 aqy=>?_);have⟨hbm,hbp,hbn,hbf⟩:=bf4 ao8.2 hbm hbp hbn hbf;have hM:=Mpb.ext ao8.2 hM;have ht:=Tb.ext ao8.2 ht;have apy:=be ao8.2 apy;have G:=gb_ext G ao8.2;refine go ?_;have ao4:=Ext.drew apz
 refine c_st2 hmix 4 (λe0 ls e W=>∃aos:Nat,(∀t,inB [5,6,7,8] t=false->e t=e0 t)∧(w.grownBy W (some b))∧(apz.heap.size<=W.heap.size)∧(ls 0=true->e 5=QV (-9) 1)∧(ls 1=true->e 6=QV 9 1)∧(ls 2=true->e 7=QV a b0)∧(ls 3=true->e 8=.slice (some ⟨aos,0,none⟩) 2 2)∧(ls 3=true->apz.heap.size<=aos)∧(Blk W bm 180 #[.map (some b)])∧(Blk W bp 3 #[.int .i64 pl])∧(Blk W bn 25 #[S (qR 9 1).1,S (qR 9 1).2])∧(Blk W bf 67 #[.func (.func 154) #[] #[pT bm,pT bp]])∧(Mpb W b (ivV Gf))∧(Tb W)∧(Blk W (w.heap.size) 25 #[S (qR a b0).1,S (qR a b0).2])∧(Blk W (apg.heap.size) 37 #[S ([]),S ([]),S ([]),S ([])])∧(ls 3=true->World.ownsRow W aos 25 2 (.slice (some ⟨aos,0,none⟩) 2 2) 2 [S (qR 9 1).1,S (qR 9 1).2,S (qR a b0).1,S (qR a b0).2])) ⟨0,(λ_ _=>rfl),(gb_ext G ao4),(bz ao4),(ff rfl),(ff rfl),(ff rfl),(ff rfl),(ff rfl),(be ao4 hbm),(be ao4 hbp),(be ao4 hbn),(be ao4 hbf),(Mpb.ext ao4 hM),(Tb.ext ao4 ht),(be ao4 apy),(be ao4 aqy),(λh=>ff rfl h)⟩ krRi6 krRi6 ?_ ?_;refine⟨λata _ _ aqz _ _ _=>?_,?_⟩;obtain⟨aos,aq0,G,zst,ao9,apa,apb,apc,apd,sc,aol,aon,aom,aoo,r8,aoq,aop,apf⟩:=aqz;obtain⟨ata,rfl⟩:=ovE aq0;have atg:=G.size;have aph:=bt sc;have api:=bt aol;have apj:=bt aon;have apk:=bt aom;have aqa:=bt aoq;have apl:=bt aop
 refine clb en2107 (hc:=whole_ok (n:=(-9)) (by unfold In64;decide) r8) (hk:=?_);rintro _ _ ao5 rfl;have⟨sc,aol,aon,aom⟩:=bf4 ao5.2 sc aol aon aom;have aoo:=Mpb.ext ao5.2 aoo;have r8:=Tb.ext ao5.2 r8;have⟨aoq,aop⟩:=bf2 ao5.2 aoq aop;have G:=gb_ext G ao5.2;refine go ?_;exact⟨rfl,_,(act_put _ _ _ _ _).symm,aos,(same_upd rfl aq0),G,om,(λ_=>rfl),apa,apb,apc,apd,(sc),(aol),(aon),(aom),(aoo),(r8),(aoq),(aop),(λaq1=>(own_ext ao5.2 (apf aq1)))⟩;refine⟨λatj _ aq2 aq3 aq4 aq5 _=>?_,?_⟩;obtain⟨aos,aqb,G,zst,ao9,apa,apb,apc,apd,sc,aol,aon,aom,aoo,r8,aoq,aop,apf⟩:=aq3;obtain⟨atj,rfl⟩:=ovE aqb;have aq6:aq2 3=false:=(unl aq4 (i:=1) (j:=3) rfl aq5);have atm:=G.size;refine go ?_;exact⟨rfl,_,(act_put _ _ _ _ _).symm,aos,(same_upd rfl aqb),G,om,ao9,(λ_=>rfl),apb,apc,apd,(sc),(aol),(aon),(aom),(aoo),(r8),(aoq),(aop),(λaq7=>ff aq6 aq7)⟩;refine⟨λatn _ aq8 aq9 ara arb _=>?_,?_⟩;obtain⟨aos,aqc,G,zst,ao9,apa,apb,apc,apd,sc,aol,aon,aom,aoo,r8,aoq,aop,apf⟩:=aq9;obtain⟨atn,rfl⟩:=ovE aqc;have arc:aq8 3=false:=(unl ara (i:=2) (j:=3) rfl arb);have atq:=G.size;refine go ?_;exact⟨rfl,_,(act_put _ _ _ _ _).symm,aos,(same_upd rfl aqc),G,om,ao9,apa,(λ_=>rfl),apc,apd,(sc),(aol),(aon),(aom),(aoo),(r8),(aoq),(aop),(λard=>ff arc ard)⟩;refine⟨λaqd arf aqe arh _ _ aqf=>?_,?_⟩
 obtain⟨aos,ari,G,zst,ao9,apa,apb,apc,apd,sc,aol,aon,aom,aoo,r8,aoq,aop,apf⟩:=arh;obtain⟨aqd,rfl⟩:=ovE ari;have arj:aqe 2=true:=(aqf 2 rfl);have ark:aqe 1=true:=(aqf 1 rfl);have arl:aqd 6=QV 9 1:=apa ark;have arm:aqd 7=QV a b0:=apb arj;have atu:=G.size;have aph:=bt sc;have api:=bt aol;have apj:=bt aon;have apk:=bt aom;have aqa:=bt aoq;have apl:=bt aop;refine l_op (k_buildSlice (vs:=[(0,QV 9 1),(1,QV a b0)]) (cells:=#[S (qR 9 1).1,S (qR 9 1).2,S (qR a b0).1,S (qR a b0).2]) U23 inf36 (cons_eqp arl (cons_eqp arm rfl)) dc dc krRi6 rfl dc (λ_ ao6 _ arn=>?_));have⟨sc,aol,aon,aom⟩:=bf4 ao6 sc aol aon aom;have aoo:=Mpb.ext ao6 aoo;have r8:=Tb.ext ao6 r8;have⟨aoq,aop⟩:=bf2 ao6 aoq aop;have G:=gb_ext G ao6;have atx:=bz ao6;refine go ?_;exact⟨rfl,_,(act_put _ _ _ _ _).symm,arf.heap.size,(same_upd rfl ari),G,om,ao9,apa,apb,(λ_=>rfl),(λ_=>om),(sc),(aol),(aon),(aom),(aoo),(r8),(aoq),(aop),(λ_=>arn)⟩;exact trivial;intro apm _ _ apn aro;obtain⟨aos,ap0,G,zst,ao9,apa,apb,apc,apd,sc,aol,aon,aom,aoo,r8,aoq,aop,apf⟩:=aro;obtain⟨apm,rfl⟩:=ovE ap0;have at1:=G.size;have at2:=apd (apn 3 rfl);have aph:=bt sc;have api:=bt aol;have apj:=bt aon;have apk:=bt aom;have aqa:=bt aoq;have apl:=bt aop;have aor:=apf (apn 3 rfl);have arp:apm 8=.slice (some ⟨aos,0,none⟩) 2 (2):=(apc (apn 3 rfl))
 refine clb en2106 (hc:=cEq (Y:=QV ca cb) (least_ok (a:=9) (b:=1) (c:=a) (d:=b0) (Rw.of_own aor) q9l9 qa r8) (by rw[hca])) (hk:=?_) (hv:=cons_eq arp rfl);rintro _ _ ao7 rfl;have⟨sc,aol,aon,aom⟩:=bf4 ao7.2 sc aol aon aom;have aoo:=Mpb.ext ao7.2 aoo;have r8:=Tb.ext ao7.2 r8;have⟨aoq,aop⟩:=bf2 ao7.2 aoq aop;have aor:=own_ext ao7.2 aor;have G:=gb_ext G ao7.2;have arr:apm 5=QV (-9) 1:=(ao9 (apn 0 rfl));refine l_op (k_buildSlice (vs:=[(0,QV (-9) 1),(1,QV ca cb)]) (cells:=#[S ((qR (-9) 1).1),S ((qR (-9) 1).2),S (qR ca cb).1,S (qR ca cb).2]) U23 inf36 (cons_eqp arr (cons_eqp rfl rfl)) dc dc krRi6 rfl dc (λ_ ao0 _ aot=>?_));have⟨sc,aol,aon,aom⟩:=bf4 ao0 sc aol aon aom;have aoo:=Mpb.ext ao0 aoo;have r8:=Tb.ext ao0 r8;have⟨aoq,aop⟩:=bf2 ao0 aoq aop;have aor:=own_ext ao0 aor;have G:=gb_ext G ao0;have at7:=bz ao0;refine clb en2151 (hc:=cEq (Y:=QV za zb) (most_ok (a:=-9) (b:=1) (c:=ca) (d:=cb) (Rw.of_own aot) q9m9 qc r8) (by rw[hza])) (hk:=?_);rintro _ _ ao1 rfl;have⟨sc,aol,aon,aom⟩:=bf4 ao1.2 sc aol aon aom;have aoo:=Mpb.ext ao1.2 aoo;have r8:=Tb.ext ao1.2 r8;have⟨aoq,aop⟩:=bf2 ao1.2 aoq aop;have aor:=own_ext ao1.2 aor;have aot:=own_ext ao1.2 aot;have G:=gb_ext G ao1.2;refine SA aoq (λapo ao2 aou=>?_);have⟨sc,aol,aon,aom⟩:=pf4 ao2 sc aol aon aom;have aoo:=Mpb.put ao2 om aoo;have r8:=Tb.put ao2 aoq dc r8;have aop:=pb ao2 aop
 have aor:=own_put ao2 (by simp[Value.ownBlock];omega) aor;have aot:=own_put ao2 (by simp[Value.ownBlock];omega) aot;have G:=gb_putn G ao2 om;have aua:=psz ao2;refine go ?_
 refine c_dv hmix 16 [12,13,14,15,16,17,18,19,20,21,22,23,24,25,26,27] [some (12,.func (.func 154) #[] #[pT bm,pT bp]),some (13,QV za zb),some (14,.tuple #[QV (flI za zb (tenI 6)) (tenI 6),.int .i64 0]),some (15,QV (flI za zb (tenI 6)) (tenI 6)),some (16,.int .i64 0),some (17,QV (flI za zb (tenI 6)) (tenI 6)),some (18,.agg #[S ((Gf (qR (flI za zb (tenI 6)) (tenI 6))).1.1),S ((Gf (qR (flI za zb (tenI 6)) (tenI 6))).1.2),S ((Gf (qR (flI za zb (tenI 6)) (tenI 6))).2.1),S ((Gf (qR (flI za zb (tenI 6)) (tenI 6))).2.2)]),some (19,.agg #[S ((Gf (qR (flI za zb (tenI 6)) (tenI 6))).1.1),S ((Gf (qR (flI za zb (tenI 6)) (tenI 6))).1.2)]),some (20,.func (.func 154) #[] #[pT bm,pT bp]),some (21,QV za zb),some (22,.tuple #[QV (clI za zb (tenI 6)) (tenI 6),.int .i64 0]),some (23,QV (clI za zb (tenI 6)) (tenI 6)),some (24,.int .i64 0),some (25,QV (clI za zb (tenI 6)) (tenI 6)),some (26,.agg #[S ((Gf (qR (clI za zb (tenI 6)) (tenI 6))).1.1),S ((Gf (qR (clI za zb (tenI 6)) (tenI 6))).1.2),S ((Gf (qR (clI za zb (tenI 6)) (tenI 6))).2.1),S ((Gf (qR (clI za zb (tenI 6)) (tenI 6))).2.2)]),some (27,.agg #[S ((Gf (qR (clI za zb (tenI 6)) (tenI 6))).2.1),S ((Gf (qR (clI za zb (tenI 6)) (tenI 6))).2.2)])] (XG (λW=>apo.grownBy W (some b)∧Mpb W b (ivV Gf))) ⟨gb_ext (World.grownBy.refl apo _) (Ext.drew apo),Mpb.ext (Ext.drew apo) aoo⟩ krRi6 krRi6 krRi6 ?_ ?_
 refine⟨λaub _ _ ars _ aqh _ _ _=>?_,?_⟩;obtain⟨aub,rfl⟩:=ovE ars;have art:=(Blk.gr aqh.1 (by simp;omega) aom);refine go ?_;exact dvG rfl aqh;refine⟨λaui _ _ aru _ aqi _ _ _=>?_,?_⟩;obtain⟨aui,rfl⟩:=ovE aru;have arv:=(Blk.gr aqi.1 (by simp;omega) aou);refine go ?_;exact dvG rfl aqi;refine⟨λarw _ _ aur arx apq _ _ _=>?_,?_⟩;obtain⟨arw,rfl⟩:=ovE aur;have ary:=zpv (arx 1 _ _ rfl rfl);have r8:=(Tb.grm apq.1 aoo r8);have G:=gb_trans G apq.1;refine clb en1090 (hc:=qDown_ok (l:=(qR za zb).1) (m:=(qR za zb).2) (pl:=6) rfl qz dc r8) (hk:=?_) (hv:=cons_eq ary (cons_eq rfl rfl));rintro _ _ apr rfl;have G:=gb_ext G apr.2;refine go ?_;exact dvG rfl ⟨gb_ext apq.1 apr.2,Mpb.ext apr.2 apq.2⟩;refine⟨λarz _ _ auz ar0 ar1 _ _ _=>?_,?_⟩;obtain⟨arz,rfl⟩:=ovE auz;have ar2:=zpv (ar0 2 _ _ rfl rfl);refine go ?_;exact dvG rfl ar1;refine⟨λar3 _ _ au5 ar4 ar5 _ _ _=>?_,?_⟩;obtain⟨ar3,rfl⟩:=ovE au5;have ar6:=zpv (ar4 2 _ _ rfl rfl);refine go ?_;exact dvG rfl ar5;refine⟨λaqj _ _ avb aqk aps _ _ _=>?_,?_⟩;obtain⟨aqj,rfl⟩:=ovE avb;have ar7:=zpv (aqk 3 _ _ rfl rfl);have ar8:=zpv (aqk 4 _ _ rfl rfl);have r8:=(Tb.grm aps.1 aoo r8);have G:=gb_trans G aps.1;refine cl en2152 rmust_ok ?_ (cons_eq ar7 (cons_eq ar8 rfl));rintro _ _ apt rfl;have G:=gb_ext G apt.2;refine go ?_;exact dvG rfl ⟨gb_ext aps.1 apt.2,Mpb.ext apt.2 aps.2⟩
 refine⟨λaql _ _ avj aqm aov _ _ _=>?_,?_⟩;obtain⟨aql,rfl⟩:=ovE avj;have ar9:=zpv (aqm 0 _ _ rfl rfl);have asa:=zpv (aqm 5 _ _ rfl rfl);have sc:=(Blk.gr aov.1 (by simp;omega) sc);have aol:=(Blk.gr aov.1 (by simp;omega) aol);have aon:=(Blk.gr aov.1 (by simp;omega) aon);have aom:=(Blk.gr aov.1 (by simp;omega) aom);have r8:=(Tb.grm aov.1 aoo r8);have aou:=(Blk.gr aov.1 (by simp;omega) aou);have aop:=(Blk.gr aov.1 (by simp;omega) aop);have aor:=(own_gr aov.1 (by simp[Value.ownBlock];omega) aor);have aot:=(own_gr aov.1 (by simp[Value.ownBlock];omega) aot);have aoo:=aov.2;have aph:=bt sc;have api:=bt aol;have apj:=bt aon;have apk:=bt aom;have asb:=bt aou;have apl:=bt aop;have avn:=aov.1.size;have G:=gb_trans G aov.1;refine l_op (k_callVA (vs:=[QV (flI za zb (tenI 6)) (tenI 6)]) (lb:=[pT bm,pT bp]) en2149 ar9 (cons_eq asa rfl) (tnorm_ok (l:=(qR (flI za zb (tenI 6)) (tenI 6)).1) (m:=(qR (flI za zb (tenI 6)) (tenI 6)).2) sc aol aoo hFd r8) ?_);rintro _ _ ⟨aox,asc,rfl⟩;have r8:=Tb.grm aox aoo r8;have G:=gb_trans G aox;have avq:=aox.size;refine go ?_;exact dvG rfl ⟨gb_trans aov.1 aox,asc⟩;refine⟨λasd _ _ avt ase asf _ _ _=>?_,?_⟩;obtain⟨asd,rfl⟩:=ovE avt;have asg:=zpv (ase 6 _ _ rfl rfl);refine l_op (k_fieldI0 asg ?_);refine go ?_;exact dvG rfl asf;refine⟨λavx _ _ ash _ aqn _ _ _=>?_,?_⟩;obtain⟨avx,rfl⟩:=ovE ash
 have asi:=(Blk.gr aqn.1 (by simp;omega) aom);refine go ?_;exact dvG rfl aqn;refine⟨λav4 _ _ asj _ aqo _ _ _=>?_,?_⟩;obtain⟨av4,rfl⟩:=ovE asj;have ask:=(Blk.gr aqo.1 (by simp;omega) aou);refine go ?_;exact dvG rfl aqo;refine⟨λasl _ _ awd asm apu _ _ _=>?_,?_⟩;obtain⟨asl,rfl⟩:=ovE awd;have aso:=zpv (asm 9 _ _ rfl rfl);have r8:=(Tb.grm apu.1 aoo r8);have G:=gb_trans G apu.1;refine clb en1091 (hc:=qUp_ok (l:=(qR za zb).1) (m:=(qR za zb).2) (pl:=6) rfl qz dc r8) (hk:=?_) (hv:=cons_eq aso (cons_eq rfl rfl));rintro _ _ apv rfl;have G:=gb_ext G apv.2;refine go ?_;exact dvG rfl ⟨gb_ext apu.1 apv.2,Mpb.ext apv.2 apu.2⟩;refine⟨λasp _ _ awl asq asr _ _ _=>?_,?_⟩;obtain⟨asp,rfl⟩:=ovE awl;have ass:=zpv (asq 10 _ _ rfl rfl);refine go ?_;exact dvG rfl asr;refine⟨λast _ _ awr asu asv _ _ _=>?_,?_⟩;obtain⟨ast,rfl⟩:=ovE awr;have asw:=zpv (asu 10 _ _ rfl rfl);refine go ?_;exact dvG rfl asv;refine⟨λaqp _ _ awx aqq apw _ _ _=>?_,?_⟩;obtain⟨aqp,rfl⟩:=ovE awx;have asx:=zpv (aqq 11 _ _ rfl rfl);have asy:=zpv (aqq 12 _ _ rfl rfl);have r8:=(Tb.grm apw.1 aoo r8);have G:=gb_trans G apw.1;refine cl en2152 rmust_ok ?_ (cons_eq asx (cons_eq asy rfl));rintro _ _ apx rfl;have G:=gb_ext G apx.2;refine go ?_;exact dvG rfl ⟨gb_ext apw.1 apx.2,Mpb.ext apx.2 apw.2⟩;refine⟨λaqr _ _ aw5 aqs aow _ _ _=>?_,?_⟩;obtain⟨aqr,rfl⟩:=ovE aw5
 have asz:=zpv (aqs 8 _ _ rfl rfl);have as0:=zpv (aqs 13 _ _ rfl rfl);have sc:=(Blk.gr aow.1 (by simp;omega) sc);have aol:=(Blk.gr aow.1 (by simp;omega) aol);have aon:=(Blk.gr aow.1 (by simp;omega) aon);have aom:=(Blk.gr aow.1 (by simp;omega) aom);have r8:=(Tb.grm aow.1 aoo r8);have aou:=(Blk.gr aow.1 (by simp;omega) aou);have aop:=(Blk.gr aow.1 (by simp;omega) aop);have aor:=(own_gr aow.1 (by simp[Value.ownBlock];omega) aor);have aot:=(own_gr aow.1 (by simp[Value.ownBlock];omega) aot);have aoo:=aow.2;have aph:=bt sc;have api:=bt aol;have apj:=bt aon;have apk:=bt aom;have asb:=bt aou;have apl:=bt aop;have aw9:=aow.1.size;have G:=gb_trans G aow.1;refine l_op (k_callVA (vs:=[QV (clI za zb (tenI 6)) (tenI 6)]) (lb:=[pT bm,pT bp]) en2149 asz (cons_eq as0 rfl) (tnorm_ok (l:=(qR (clI za zb (tenI 6)) (tenI 6)).1) (m:=(qR (clI za zb (tenI 6)) (tenI 6)).2) sc aol aoo hFu r8) ?_);rintro _ _ ⟨aoy,as1,rfl⟩;have r8:=Tb.grm aoy aoo r8;have G:=gb_trans G aoy;have axc:=aoy.size;refine go ?_;exact dvG rfl ⟨gb_trans aow.1 aoy,as1⟩;refine⟨λas2 _ _ axf as3 as4 _ _ _=>?_,?_⟩;obtain⟨as2,rfl⟩:=ovE axf;have as5:=zpv (as3 14 _ _ rfl rfl);refine l_op (k_fieldI1 as5 ?_);refine go ?_;exact dvG rfl as4;exact trivial;intro ap2 _ _ _ as6 aqt aoz;obtain⟨ap2,rfl⟩:=ovE as6;have ap3:=(Blk.gr aoz.1 (by simp;omega) sc);have axm:=bt ap3;have ap4:=(Blk.gr aoz.1 (by simp;omega) aol);have axn:=bt ap4
 have ap5:=(Blk.gr aoz.1 (by simp;omega) aon);have axo:=bt ap5;have ap6:=(Blk.gr aoz.1 (by simp;omega) aom);have axp:=bt ap6;have ap7:=aoz.2;have aqu:=(Tb.grm aoz.1 aoo r8);have ap8:=(Blk.gr aoz.1 (by simp;omega) aou);have axq:=bt ap8;have ap9:=(Blk.gr aoz.1 (by simp;omega) aop);have axr:=bt ap9;have aqv:=(own_gr aoz.1 (by simp[Value.ownBlock];omega) aor);have aqw:=(own_gr aoz.1 (by simp[Value.ownBlock];omega) aot);have axs:=aoz.1.size;have G:=gb_trans G aoz.1;have as7:=zpv (aqt 7 _ _ rfl rfl);have as8:=zpv (aqt 15 _ _ rfl rfl);refine l_op (k_build (vs:=[(0,.agg #[S ((Gf (qR (flI za zb (tenI 6)) (tenI 6))).1.1),S ((Gf (qR (flI za zb (tenI 6)) (tenI 6))).1.2)]),(1,.agg #[S ((Gf (qR (clI za zb (tenI 6)) (tenI 6))).2.1),S ((Gf (qR (clI za zb (tenI 6)) (tenI 6))).2.2)])]) (cells:=#[S ((Gf (qR (flI za zb (tenI 6)) (tenI 6))).1.1),S ((Gf (qR (flI za zb (tenI 6)) (tenI 6))).1.2),S ((Gf (qR (clI za zb (tenI 6)) (tenI 6))).2.1),S ((Gf (qR (clI za zb (tenI 6)) (tenI 6))).2.2)]) (pl:=[(0,2),(2,2)]) U1032 inf1032 krRi6 (cons_eqp as7 (cons_eqp as8 rfl)) krRi6 ?_);refine SA ap9 (λ_ ao3 as9=>?_);have⟨ap3,ap4,ap5,ap6⟩:=pf4 ao3 ap3 ap4 ap5 ap6;have ap7:=Mpb.put ao3 om ap7;have ap8:=pb ao3 ap8;have G:=gb_putn G ao3 om;have axu:=psz ao3;refine go ?_
 refine f_outA (v:=.agg #[S ((Gf (qR (flI za zb (tenI 6)) (tenI 6))).1.1),S ((Gf (qR (flI za zb (tenI 6)) (tenI 6))).1.2),S ((Gf (qR (clI za zb (tenI 6)) (tenI 6))).2.1),S ((Gf (qR (clI za zb (tenI 6)) (tenI 6))).2.2)]) (res1  rfl ?_) ⟨G,ap7,rfl⟩;refine res_cellA (t:=4) (cs:=[S ((Gf (qR (flI za zb (tenI 6)) (tenI 6))).1.1),S ((Gf (qR (flI za zb (tenI 6)) (tenI 6))).1.2),S ((Gf (qR (clI za zb (tenI 6)) (tenI 6))).2.1),S ((Gf (qR (clI za zb (tenI 6)) (tenI 6))).2.2)]) (b:=apg.heap.size) (o:=0) U1032 rfl sz1032 ?_ ?_;exact rfl;exact Blk.cells as9 (i:=0) rfl
end Go.Proofs.YtinldhphnpflaaaGreatDoor
namespace Go.Proofs.YtinldhphnpflaaaGreatDoor
open Go Go.Eng Go.RowKit
theorem eq20n (w:World):(Op.equal 20 .nilIface .nilIface).run Tryz.prog w=.ok true w:=by
  unfold Op.equal Op.maxDepth
  show(Op.equalIn (9999+1) 20 _ _).run _ _=_
  unfold Op.equalIn
  simp[run_underlying Tryz.underlying20]
set_option maxRecDepth 100000 in
theorem safe_ret {n b1 b2:Nat}{w:World}:
    CallsDIn Fence.wide n Tryz.prog 117 #[pT b1,pT b2] .returning w (λe u' w'=>(∃v,e=.returned v)∧u'=.returning∧w'=w):=by
  refine dIn (args:=[pT b1,pT b2]) Tryz.func117 rfl (λ_ _ hu=>?_)
  refine wpS_seq ?_
  refine s_reg0 (rest:=[1]) rfl rfl (by simp[recoverD,hu]) (so_val (v:=.nilIface) rfl rfl (so_nil ?_))
  refine wpS_of_wp (wpIn_wide (n:=0).1 ?_)
  refine c_seq (r:=none) ?_
  refine c_reg (r:=none) ?_
  refine l_op (r:=none) (k_move (v:=.nilIface) rfl ?_)
  have h:(Instr.typeAssert .nilIface 20 33 true).run Tryz.prog w=.ok (.tuple #[.int .i64 0,.bool false]) w:=by
    obtain⟨i,i1,i2,_,_⟩:=(inf32:Inf Tryz.prog 33 _ _ _).parts
    unfold Instr.typeAssert
    simp[run_underlying Tryz.underlying33,zeroValue,typeInfo,i1,i2]
  refine l_op (r:=none) (k_val (v:=.tuple #[.int .i64 0,.bool false]) (w':=w) rfl ?_ ?_)
  · simp only[execOp]
    exact congrArg (λr=>Result.andThen r λa w'=>Result.ok (Next.value a) w') h
  rw[act_put]
  refine l_op (r:=none) (k_move (v:=.tuple #[.int .i64 0,.bool false]) rfl ?_)
  refine l_op (r:=none) (k_extract (v:=.int .i64 0) rfl rfl ?_)
  refine l_op (r:=none) (k_extract (v:=.bool false) rfl rfl ?_)
  refine l_op (r:=none) (k_assign (v:=.int .i64 0) rfl ?_)
  refine l_op (r:=none) (k_assign (v:=.bool false) rfl ?_)
  refine l_nil ?_
  refine n_then ?_
  refine c_seq (r:=none) ?_
  refine c_reg (r:=none) ?_
  refine l_op (r:=none) (k_move (v:=.bool false) rfl ?_)
  refine l_nil ?_
  refine n_then ?_
  refine c_false (r:=none) rfl ?_
  refine c_seq (r:=none) ?_
  refine c_reg (r:=none) ?_
  refine l_op (r:=none) (k_move (v:=.nilIface) rfl ?_)
  refine l_op (r:=none) (k_bin (X:=.nilIface) (Y:=.nilIface) (v:=.bool false) rfl rfl ?_ ?_ ?_)
  · unfold eqGuard
    simp
  · simp[binOp,eq20n]
  refine l_nil ?_
  refine n_then ?_
  refine c_false (r:=none) rfl ?_
  refine c_skip (r:=none) ?_
  exact⟨rfl,.returning,by rw[<-hu],_,res0 rfl,⟨_,rfl⟩,rfl,rfl⟩
abbrev dfS (g b1 b2:Nat):Deferred:={target:=.fn (.func g) #[],args:=#[pT b1,pT b2]}
section
variable {P:Program}{r:Option Nat}{n N:Nat}{e:Nat->Value}{ds:List Deferred}{w:World}{Q:Exit->Act->World->Prop}{K:Act->World->Prop}
variable {d ty:Nat}{pos:String}{af:Array Edge}{ats:Array TypeId}{g:Option (Nat×Bool)}{x y:Operand}
theorem k_deferS {f b1 b2:Nat}(hx:ev N e x=pT b1)(hy:ev N e y=pT b2)(hk:K (act N e (dfS f b1 b2::ds)) w):
    Oper.wpIn (Fw none) n P ⟨none,.defer {callee:=.value (.func f),args:=#[x,y],argTypes:=ats},ty,pos,af,g⟩ (act N e ds) w K Q:=by
  refine⟨λf _=>Fw_fn none f,?_⟩
  rw[Fw_round,Oper.semAt_none,act_eval]
  have:(execOp (ev N e) (⟨none,.defer {callee:=.value (.func f),args:=#[x,y],argTypes:=ats},ty,pos,af,g⟩:Oper)).run P w=.ok (.defer (dfS f b1 b2)) w:=by
    have hf:ev N e (.func f)=.func (.func f) #[] #[]:=rfl
    simp[execOp,resolve,Deferred.ofValue,hx,hy,hf]
  rw[this]
  exact hk
end
theorem t_retS {fn:Func}{N g b1 b2:Nat}{e:Nat->Value}{w w':World}{R:Value->World->Prop}{v:Value}(hg:Enters Tryz.prog g)(hc:RetsN g b1 b2)(hx:Ext w w')(hr:(results fn (act N e [dfS g b1 b2]).tmps).run Tryz.prog w'=.ok v w')(hR:R v w'):
    bodyPostDIn Fence.wide 0 Tryz.prog fn (Ret w R) .ret (act N e [dfS g b1 b2]) w':=by
  refine leavesIn_cons (f:=g) (args:=#[pT b1,pT b2]) (by simp) (by simp[Fence.wide]) ?_ (λ_ _=>trivial) ?_
  · have h:=hg #[pT b1,pT b2] w'
    simpa[invoke]using h
  · refine CallsDIn.mono (hc _ _) ?_
    rintro _ _ _ ⟨⟨v',rfl⟩,rfl,rfl⟩
    exact⟨v,hr,hx,hR⟩
end Go.Proofs.YtinldhphnpflaaaGreatDoor
namespace Go.Proofs.YtinldhphnpflaaaGreatDoor
open Go Go.Eng Go.RowKit
attribute [local irreducible] wpListIn Code.wpIn Oper.wpIn Exit.then Exit.inBlock Exit.noGoto
set_option maxHeartbeats 40000000
theorem inf2181:Inf Tryz.prog 180 (.map none) 1 8:=by unfold Inf;kernel_rfl
structure TabM (w:World)(lo b bm bp bn bf pl:Nat)(Gf:R->R×R):Prop where
  mp:Mpb w b (ivV Gf)
  hm:Blk w bm 180 #[.map (some b)]
  hp:Blk w bp 3 #[.int .i64 pl]
  hn:Blk w bn 25 #[S (qR 9 1).1,S (qR 9 1).2]
  hf:Blk w bf 67 #[.func (.func 154) #[] #[pT bm,pT bp]]
  lo:lo<=b∧lo<=bm∧lo<=bp∧lo<=bn∧lo<=bf
set_option maxRecDepth 100000 in
theorem tableOf_ok {pl:Nat}{Gf:R->R×R}{w:World}(ht:Tb w):
    CL 118 #[.int .i64 pl] w (Ret w λv w'=>∃b bm bp bn bf,v=.agg #[.int .i64 pl,.func (.func 156) #[] #[pT bn,pT bf]]∧TabM w' w.heap.size b bm bp bn bf pl Gf):=by
 refine f_in Tryz.func118 rfl ?_;refine go ?_;refine bx (λao2 ao4 r8=>?_);have sc:=ao4.2;refine al inf2141 (λao5 ao3 aol=>?_);have⟨r8,sc⟩:=be1 ao3.2 r8 sc;refine go ?_;refine l_op (k_makeMap (F:=ivV Gf) (λao0 aoy _ aom=>?_));have⟨r8,aol,sc⟩:=be2 aoy r8 aol sc;have apb:=bz aoy;refine al inf2181 (λ_ aoz ao6=>?_);have⟨r8,aol⟩:=bf2 aoz.2 r8 aol;have aom:=Mpb.ext aoz.2 aom;have sc:=xt sc aoz.2;refine l_op (k_store (b:=ao0.heap.size) (o:=0) (v:=.map (some ao5.heap.size)) sz2181 rfl rfl rfl ao6 (Nat.le_of_ble_eq_true rfl) (λaoo aow aon=>?_));have⟨r8,aol⟩:=pf2 aow r8 aol;have aom:=Mpb.put aow om aom;have sc:=plw aow sc;have apd:=psz aow;refine go ?_;refine l_op (k_makeFunc (vf:=[]) (vc:=[pT ao0.heap.size,pT w.heap.size]) rfl rfl ?_);refine al inf1040 (λ_ aox ao7=>?_);have⟨r8,aol⟩:=bf2 aox.2 r8 aol;have aom:=Mpb.ext aox.2 aom;have⟨aon,sc⟩:=be1 aox.2 aon sc;refine SO ao7 (λ_ aot aop=>?_) (hi:=sz1040);have⟨r8,aol⟩:=pf2 aot r8 aol;have aom:=Mpb.put aot om aom;have⟨aon,sc,_⟩:=pl1 aot aon sc;refine go ?_;refine clb en2107 (hc:=whole_ok (n:=9) (by unfold In64;decide) (ht.ext sc)) (hk:=?_);rintro _ aoq aou rfl;have⟨r8,aol⟩:=bf2 aou.2 r8 aol;have aom:=Mpb.ext aou.2 aom;have⟨aon,aop,sc⟩:=be2 aou.2 aon aop sc;refine al inf36 (λ_ aov ao8=>?_);have⟨r8,aol⟩:=bf2 aov.2 r8 aol;have aom:=Mpb.ext aov.2 aom;have⟨aon,aop,sc⟩:=be2 aov.2 aon aop sc
 refine SA ao8 (λ_ aor ao1=>?_);have⟨r8,aol⟩:=pf2 aor r8 aol;have aom:=Mpb.put aor om aom;have⟨aon,aop,sc,_⟩:=pl2 aor aon aop sc;refine go ?_;refine l_op (k_makeFunc (vf:=[]) (vc:=[pT aoq.heap.size,pT aoo.heap.size]) rfl rfl ?_);refine go ?_;refine l_op (k_build (vs:=[(0,.int .i64 pl),(1,.func (.func 156) #[] #[pT aoq.heap.size,pT aoo.heap.size])]) (cells:=#[.int .i64 pl,.func (.func 156) #[] #[pT aoq.heap.size,pT aoo.heap.size]]) (pl:=[(0,1),(1,1)]) U2141 inf2141 (by kernel_rfl) rfl (by kernel_rfl) ?_);refine l_op (k_storeA (b:=ao2.heap.size) (o:=0) (vs:=[.int .i64 pl,.func (.func 156) #[] #[pT aoq.heap.size,pT aoo.heap.size]]) sz2141 rfl rfl (by simp[Value.oneCell',S]) aol (Nat.le_of_ble_eq_true rfl) (λ_ aos ao9=>?_));have r8:=pb aos r8;have aom:=Mpb.put aos om aom;have⟨aon,aop,ao1,sc,_⟩:=pl3 aos aon aop ao1 sc;refine go ?_;refine f_out (v:=.agg #[.int .i64 pl,.func (.func 156) #[] #[pT aoq.heap.size,pT aoo.heap.size]]) (res1  rfl ?_) sc ⟨_,_,_,_,_,rfl,⟨aom,aon,r8,ao1,aop,om⟩⟩;refine res_cellA (t:=2) (cs:=[.int .i64 pl,.func (.func 156) #[] #[pT aoq.heap.size,pT aoo.heap.size]]) (b:=ao2.heap.size) (o:=0) U2141 rfl sz2141 ?_ ?_;exact rfl;exact Blk.cells ao9 (i:=0) rfl
theorem krRi8 {p:Prop}(h:p:=by kernel_rfl):p:=h
theorem erRi8 {w:World}:Ext w w:=Ext.refl _
theorem q901:Q9 0 1:=⟨by decide,by decide,by decide⟩
theorem q911:Q9 1 1:=⟨by decide,by decide,by decide⟩
set_option maxRecDepth 100000 in
theorem outside_ok {va vb sa sb la lb ha hb ma mb na nb ca1 cb1 ca2 cb2 z1 y1 z2 y2 a1 b1 c1 d1 a2 b2 c2 d2 ea eb fa fb:Int}{pl:Nat}{Gf:R->R×R}{w:World}(h1:1<=pl)(h12:pl<=12)(qv:Q9 va vb)(qs:Q9 sa sb)(ql:Q9 la lb)(qh:Q9 ha hb)(hsh:∀q∈[qR va vb,qR sa sb,qR la lb,qR ha hb],ShR q)(hs0:0<sa)(hsp:decide (cmpI (0*sb) (sa*1)<0)=true)(hlh:decide (cmpI (la*hb) (ha*lb)<0)=true)(q1s:Q9 (la*vb-va*lb) (lb*vb))(q2s:Q9 (va*hb-ha*vb) (vb*hb))(hm1:qR ((la*vb-va*lb)*sb) (lb*vb*sa)=qR ma mb)(hm2:qR ((va*hb-ha*vb)*sb) (vb*hb*sa)=qR na nb)(qm1:Q9 ma mb)(qc1:Q9 ca1 cb1)(qz1:Q9 z1 y1)(hc1:minQ 9 1 ma mb=qR ca1 cb1)(hz1:maxQ (-9) 1 ca1 cb1=qR z1 y1)(qm2:Q9 na nb)(qc2:Q9 ca2 cb2)(qz2:Q9 z2 y2)(hc2:minQ 9 1 na nb=qR ca2 cb2)(hz2:maxQ (-9) 1 ca2 cb2=qR z2 y2)(hd1:∀W,Tb W->CL 155 #[.agg #[S (qR (flI z1 y1 (tenI 6)) (tenI 6)).1,S (qR (flI z1 y1 (tenI 6)) (tenI 6)).2],.int .i64 pl] W (Ret W λv _=>v=.tuple #[.agg #[S ((Gf (qR (flI z1 y1 (tenI 6)) (tenI 6))).1.1),S ((Gf (qR (flI z1 y1 (tenI 6)) (tenI 6))).1.2),S ((Gf (qR (flI z1 y1 (tenI 6)) (tenI 6))).2.1),S ((Gf (qR (flI z1 y1 (tenI 6)) (tenI 6))).2.2)],.int .i64 0]))(hu1:∀W,Tb W->CL 155 #[.agg #[S (qR (clI z1 y1 (tenI 6)) (tenI 6)).1,S (qR (clI z1 y1 (tenI 6)) (tenI 6)).2],.int .i64 pl] W (Ret W λv _=>v=.tuple #[.agg #[S ((Gf (qR (clI z1 y1 (tenI 6)) (tenI 6))).1.1),S ((Gf (qR (clI z1 y1 (tenI 6)) (tenI 6))).1.2),S ((Gf (qR (clI z1 y1 (tenI 6)) (tenI 6))).2.1),S ((Gf (qR (clI z1 y1 (tenI 6)) (tenI 6))).2.2)],.int .i64 0]))(hd2:∀W,Tb W->CL 155 #[.agg #[S (qR (flI z2 y2 (tenI 6)) (tenI 6)).1,S (qR (flI z2 y2 (tenI 6)) (tenI 6)).2],.int .i64 pl] W (Ret W λv _=>v=.tuple #[.agg #[S ((Gf (qR (flI z2 y2 (tenI 6)) (tenI 6))).1.1),S ((Gf (qR (flI z2 y2 (tenI 6)) (tenI 6))).1.2),S ((Gf (qR (flI z2 y2 (tenI 6)) (tenI 6))).2.1),S ((Gf (qR (flI z2 y2 (tenI 6)) (tenI 6))).2.2)],.int .i64 0]))(hu2:∀W,Tb W->CL 155 #[.agg #[S (qR (clI z2 y2 (tenI 6)) (tenI 6)).1,S (qR (clI z2 y2 (tenI 6)) (tenI 6)).2],.int .i64 pl] W (Ret W λv _=>v=.tuple #[.agg #[S ((Gf (qR (clI z2 y2 (tenI 6)) (tenI 6))).1.1),S ((Gf (qR (clI z2 y2 (tenI 6)) (tenI 6))).1.2),S ((Gf (qR (clI z2 y2 (tenI 6)) (tenI 6))).2.1),S ((Gf (qR (clI z2 y2 (tenI 6)) (tenI 6))).2.2)],.int .i64 0]))(hi1:IvR ((Gf (qR (flI z1 y1 (tenI 6)) (tenI 6))).1,(Gf (qR (clI z1 y1 (tenI 6)) (tenI 6))).2))(hi2:IvR ((Gf (qR (flI z2 y2 (tenI 6)) (tenI 6))).1,(Gf (qR (clI z2 y2 (tenI 6)) (tenI 6))).2))(g1:(Gf (qR (flI z1 y1 (tenI 6)) (tenI 6))).1=qR a1 b1)(g2:(Gf (qR (clI z1 y1 (tenI 6)) (tenI 6))).2=qR c1 d1)(k1:Q9 a1 b1)(k2:Q9 c1 d1)(g3:(Gf (qR (flI z2 y2 (tenI 6)) (tenI 6))).1=qR a2 b2)(g4:(Gf (qR (clI z2 y2 (tenI 6)) (tenI 6))).2=qR c2 d2)(k3:Q9 a2 b2)(k4:Q9 c2 d2)(he:qR (a1*b2+a2*b1) (b1*b2)=qR ea eb)(hf:qR (c1*d2+c2*d1) (d1*d2)=qR fa fb)(qe:Q9 ea eb)(qf:Q9 fa fb)(ht:Tb w):
    CL 75 #[.agg #[S (qR va vb).1,S (qR va vb).2],.agg #[S (qR sa sb).1,S (qR sa sb).2],.agg #[S (qR la lb).1,S (qR la lb).2],.agg #[S (qR ha hb).1,S (qR ha hb).2],.int .i64 pl] w (Ret w λv w'=>v=.tuple #[.agg #[S ((minQ 1 1 ea eb).1),S ((minQ 1 1 ea eb).2),S ((minQ 1 1 fa fb).1),S ((minQ 1 1 fa fb).2)],.int .i64 0]):=by
 refine f_inT Tryz.func75 rfl ?_;refine go ?_;refine bx (λaqc atu aol=>?_);have sc:=atu.2;refine bx (λaqm ass aom=>?_);have⟨aol,sc⟩:=be1 ass.2 aol sc;refine bx (λaqn arw aoo=>?_);have⟨aol,aom,sc⟩:=be2 arw.2 aol aom sc;refine bx (λaqd aqo aoz=>?_);have⟨aol,aom,aoo,sc⟩:=be3 aqo.2 aol aom aoo sc;refine al inf1032 (λaqe aqf ao3=>?_);have⟨aol,aom,aoo,aoz,sc⟩:=be4 aqf.2 aol aom aoo aoz sc;refine al inf32 (λ_ aqb ao4=>?_);have⟨aol,aom,aoo,aoz,ao3,sc⟩:=be5 aqb.2 aol aom aoo aoz ao3 sc;refine go ?_;refine cl en2099 (riskRight_ok h1 h12) ?_;rintro _ arx ap9 rfl;have⟨aol,aom,aoo,aoz,ao3⟩:=bf5 ap9.2 aol aom aoo aoz ao3;have⟨ao4,sc⟩:=be1 ap9.2 ao4 sc;refine go ?_;refine l_op (k_buildSlice (vs:=[(0,.agg #[S (qR va vb).1,S (qR va vb).2]),(1,.agg #[S (qR sa sb).1,S (qR sa sb).2]),(2,.agg #[S (qR la lb).1,S (qR la lb).2]),(3,.agg #[S (qR ha hb).1,S (qR ha hb).2])]) (cells:=#[S (qR va vb).1,S (qR va vb).2,S (qR sa sb).1,S (qR sa sb).2,S (qR la lb).1,S (qR la lb).2,S (qR ha hb).1,S (qR ha hb).2]) U23 inf36 rfl dc dc krRi8 rfl dc (λ_ ap3 _ ao5=>?_));have⟨aol,aom,aoo,aoz,ao3⟩:=bf5 ap3 aol aom aoo aoz ao3;have⟨ao4,sc⟩:=be1 ap3 ao4 sc;have aw0:=bz ap3;refine go ?_;refine clb en2100 (hc:=areShort_ok (n:=4) (l:=[qR va vb,qR sa sb,qR la lb,qR ha hb]) (Rw.of_own ao5) rfl dc hsh (ht.ext sc)) (hk:=?_);rintro _ _ ap4 rfl
 have⟨aol,aom,aoo,aoz,ao3⟩:=bf5 ap4.2 aol aom aoo aoz ao3;have ao4:=be ap4.2 ao4;have ao5:=own_ext ap4.2 ao5;have sc:=xt sc ap4.2;refine go ?_;refine clb en2101 (hc:=cEq (Y:=.bool true) (isLess_ok (a:=0) (b:=1) (c:=sa) (d:=sb) q901 qs (ht.ext sc)) (by rw[hsp])) (hk:=?_);rintro _ _ ap5 rfl;have⟨aol,aom,aoo,aoz,ao3⟩:=bf5 ap5.2 aol aom aoo aoz ao3;have ao4:=be ap5.2 ao4;have ao5:=own_ext ap5.2 ao5;have sc:=xt sc ap5.2;refine go ?_;refine clb en2101 (hc:=cEq (Y:=.bool true) (isLess_ok (a:=la) (b:=lb) (c:=ha) (d:=hb) ql qh (ht.ext sc)) (by rw[hlh])) (hk:=?_);rintro _ _ ap6 rfl;have⟨aol,aom,aoo,aoz,ao3⟩:=bf5 ap6.2 aol aom aoo aoz ao3;have ao4:=be ap6.2 ao4;have ao5:=own_ext ap6.2 ao5;have sc:=xt sc ap6.2;refine go ?_;refine l_op (k_deferS rfl rfl ?_);refine go ?_;have ast:=bt aol;have asu:=bt aom;have asv:=bt aoo;have asw:=bt aoz;have asx:=bt ao3;have asy:=bt ao4;refine l_op (clV (vs:=[.int .i64 pl]) (lb:=[]) en2103 rfl rfl (tableOf_ok (Gf:=Gf) (ht.ext sc)) ?_);rintro _ ap1 ap7 ⟨tb_,tm_,tp_,tn_,tf_,rfl,ap2⟩;have⟨aol,aom,aoo,aoz,ao3⟩:=bf5 ap7.2 aol aom aoo aoz ao3;have ao4:=be ap7.2 ao4;have ao5:=own_ext ap7.2 ao5;have sc:=xt sc ap7.2;have Thm:=ap2.hm;have zThm:=bt Thm;have nThm:=Mpb.ne ap2.mp Thm;have Thp:=ap2.hp;have zThp:=bt Thp;have nThp:=Mpb.ne ap2.mp Thp;have Thn:=ap2.hn;have zThn:=bt Thn;have nThn:=Mpb.ne ap2.mp Thn;have Thf:=ap2.hf;have zThf:=bt Thf
 have nThf:=Mpb.ne ap2.mp Thf;have Tmp:=ap2.mp;have Tlo:=ap2.lo;have zTm:=Mpb.lt Tmp;refine al inf2141 (λ_ apx atv=>?_);have⟨aol,aom,aoo,aoz,ao3⟩:=bf5 apx.2 aol aom aoo aoz ao3;have ao4:=be apx.2 ao4;have ao5:=own_ext apx.2 ao5;have⟨Thm,Thp,Thn,Thf⟩:=bf4 apx.2 Thm Thp Thn Thf;have Tmp:=Mpb.ext apx.2 Tmp;have sc:=xt sc apx.2;refine l_op (k_storeA (b:=ap1.heap.size) (o:=0) (vs:=[.int .i64 pl,.func (.func 156) #[] #[pT tn_,pT tf_]]) sz2141 rfl rfl (by simp[Value.oneCell',S]) atv (Nat.le_of_ble_eq_true rfl) (λaqg apw apy=>?_));have⟨aol,aom,aoo,aoz,ao3⟩:=pf5 apw aol aom aoo aoz ao3;have ao4:=pb apw ao4;have ao5:=own_put apw (by simp[Value.ownBlock];omega) ao5;have⟨Thm,Thp,Thn,Thf⟩:=pf4 apw Thm Thp Thn Thf;have Tmp:=Mpb.put apw om Tmp;have sc:=plw apw sc;have aw9:=psz apw;refine go ?_
 refine c_dv hmix 19 [13,41,42,43,44,45,46,47,48,49,50,51,52,53,54,55,56,57,58] [some (41,.pointer (some ⟨ap1.heap.size,1,none⟩)),some (42,.func (.func 156) #[] #[pT tn_,pT tf_]),some (43,.agg #[S (qR la lb).1,S (qR la lb).2]),some (44,.agg #[S (qR va vb).1,S (qR va vb).2]),some (45,.agg #[S (qR sa sb).1,S (qR sa sb).2]),some (46,.agg #[S (qR ma mb).1,S (qR ma mb).2]),some (47,.agg #[S ((Gf (qR (flI z1 y1 (tenI 6)) (tenI 6))).1.1),S ((Gf (qR (flI z1 y1 (tenI 6)) (tenI 6))).1.2),S ((Gf (qR (clI z1 y1 (tenI 6)) (tenI 6))).2.1),S ((Gf (qR (clI z1 y1 (tenI 6)) (tenI 6))).2.2)]),some (48,.pointer (some ⟨ap1.heap.size,1,none⟩)),some (49,.func (.func 156) #[] #[pT tn_,pT tf_]),some (50,.agg #[S (qR va vb).1,S (qR va vb).2]),some (51,.agg #[S (qR ha hb).1,S (qR ha hb).2]),some (52,.agg #[S (qR sa sb).1,S (qR sa sb).2]),some (53,.agg #[S (qR na nb).1,S (qR na nb).2]),some (54,.agg #[S ((Gf (qR (flI z2 y2 (tenI 6)) (tenI 6))).1.1),S ((Gf (qR (flI z2 y2 (tenI 6)) (tenI 6))).1.2),S ((Gf (qR (clI z2 y2 (tenI 6)) (tenI 6))).2.1),S ((Gf (qR (clI z2 y2 (tenI 6)) (tenI 6))).2.2)]),some (55,.tuple #[.agg #[S (qR ea eb).1,S (qR ea eb).2,S (qR fa fb).1,S (qR fa fb).2],.int .i64 0]),some (56,.agg #[S (qR ea eb).1,S (qR ea eb).2,S (qR fa fb).1,S (qR fa fb).2]),some (57,.int .i64 0),some (58,.agg #[S (qR ea eb).1,S (qR ea eb).2,S (qR fa fb).1,S (qR fa fb).2]),none] (XH (λW=>aqg.grownBy W (some tb_)∧Mpb W tb_ (ivV Gf)) aqg.heap.size 18 13 37 #[S ([]),S ([]),S ([]),S ([])]) (XH.start ⟨gb_ext (World.grownBy.refl aqg _) (Ext.drew aqg),Mpb.ext (Ext.drew aqg) Tmp⟩) krRi8 krRi8 krRi8 ?_ ?_
 refine⟨λaxa _ _ atw _ asz _ _ _=>?_,?_⟩;obtain⟨axa,rfl⟩:=ovE atw;refine l_op (k_fieldAddr (b:=ap1.heap.size) (o:=0) (off:=1) (oo:=1) U2141 rfl rfl sz1040 rfl rfl ?_);refine go ?_;exact dvHx rfl asz asz.1 erRi8;refine⟨λatx _ _ axj aty ary _ _ _=>?_,?_⟩;obtain⟨atx,rfl⟩:=ovE axj;have atz:=zpv (aty 0 _ _ rfl rfl);have at0:=(Blk.gr ary.1.1 (by simp;omega) apy);refine go ?_;exact dvHx rfl ary ary.1 erRi8;refine⟨λaxn _ _ at1 _ arz _ _ _=>?_,?_⟩;obtain⟨axn,rfl⟩:=ovE at1;have at2:=(Blk.gr arz.1.1 (by simp;omega) aoo);refine go ?_;exact dvHx rfl arz arz.1 erRi8;refine⟨λaxu _ _ at3 _ ar0 _ _ _=>?_,?_⟩;obtain⟨axu,rfl⟩:=ovE at3;have at4:=(Blk.gr ar0.1.1 (by simp;omega) aol);refine go ?_;exact dvHx rfl ar0 ar0.1 erRi8;refine⟨λax1 _ _ at6 _ ar1 _ _ _=>?_,?_⟩;obtain⟨ax1,rfl⟩:=ovE at6;have at7:=(Blk.gr ar1.1.1 (by simp;omega) aom);refine go ?_;exact dvHx rfl ar1 ar1.1 erRi8;refine⟨λar2 _ _ aya ar3 aqp _ _ _=>?_,?_⟩;obtain⟨ar2,rfl⟩:=ovE aya;have at8:=zpv (ar3 2 _ _ rfl rfl);have at9:=zpv (ar3 3 _ _ rfl rfl);have aua:=zpv (ar3 4 _ _ rfl rfl);have ar4:=low_gr sc aqp.1.1 (bz sc) (λg hgg=>by cases hgg;omega)
 refine clb en2105 (hc:=cEq (Y:=.agg #[S (qR ma mb).1,S (qR ma mb).2]) (scaled_ok ql qv qs q1s hs0 (ht.ext ar4)) (by rw[hm1])) (hk:=?_) (hv:=cons_eq at8 (cons_eq at9 (cons_eq aua rfl)));rintro _ _ aqq rfl;refine go ?_;exact dvHx rfl aqp ⟨gb_ext aqp.1.1 aqq.2,Mpb.ext aqq.2 aqp.1.2⟩ aqq.2;refine⟨λas0 _ _ ayi as1 ao8 _ _ _=>?_,?_⟩;obtain⟨as0,rfl⟩:=ovE ayi;have aub:=zpv (as1 1 _ _ rfl rfl);have auc:=zpv (as1 5 _ _ rfl rfl);have aol:=(Blk.gr ao8.1.1 (by simp;omega) aol);have aom:=(Blk.gr ao8.1.1 (by simp;omega) aom);have aoo:=(Blk.gr ao8.1.1 (by simp;omega) aoo);have aoz:=(Blk.gr ao8.1.1 (by simp;omega) aoz);have ao3:=(Blk.gr ao8.1.1 (by simp;omega) ao3);have ao4:=(Blk.gr ao8.1.1 (by simp;omega) ao4);have ao5:=(own_gr ao8.1.1 (by simp[Value.ownBlock];omega) ao5);have Thm:=(Blk.gr ao8.1.1 (by simp;omega) Thm);have Thp:=(Blk.gr ao8.1.1 (by simp;omega) Thp);have Thn:=(Blk.gr ao8.1.1 (by simp;omega) Thn);have Thf:=(Blk.gr ao8.1.1 (by simp;omega) Thf);have apy:=(Blk.gr ao8.1.1 (by simp;omega) apy);have Tmp:=ao8.1.2;have ast:=bt aol;have asu:=bt aom;have asv:=bt aoo;have asw:=bt aoz;have asx:=bt ao3;have asy:=bt ao4;have zlThm:=bt Thm;have zlThp:=bt Thp;have zlThn:=bt Thn;have zlThf:=bt Thf;have aud:=bt apy;have aym:=ao8.1.1.size;have aqr:=low_gr sc ao8.1.1 (bz sc) (λg hgg=>by cases hgg;omega)
 refine l_op (k_callVA (vs:=[.agg #[S (qR ma mb).1,S (qR ma mb).2]]) (lb:=[pT tn_,pT tf_]) en2150 aub (cons_eq auc rfl) (tshare_ok qm1 qc1 qz1 hc1 hz1 Thm Thp Thn Thf Tmp hd1 hu1 (ht.ext aqr)) ?_);rintro _ _ ⟨ape,aue,rfl⟩;have ayp:=ape.size;refine go ?_;exact dvH rfl ao8 ⟨gb_trans ao8.1.1 ape,aue⟩ ape (λg hgg=>by cases hgg;omega);refine⟨λayq _ _ auf _ as2 _ _ _=>?_,?_⟩;obtain⟨ayq,rfl⟩:=ovE auf;refine l_op (k_fieldAddr (b:=ap1.heap.size) (o:=0) (off:=1) (oo:=1) U2141 rfl rfl sz1040 rfl rfl ?_);refine go ?_;exact dvHx rfl as2 as2.1 erRi8;refine⟨λaug _ _ ayz auh ar5 _ _ _=>?_,?_⟩;obtain⟨aug,rfl⟩:=ovE ayz;have aui:=zpv (auh 7 _ _ rfl rfl);have auj:=(Blk.gr ar5.1.1 (by simp;omega) apy);refine go ?_;exact dvHx rfl ar5 ar5.1 erRi8;refine⟨λay3 _ _ auk _ ar6 _ _ _=>?_,?_⟩;obtain⟨ay3,rfl⟩:=ovE auk;have aul:=(Blk.gr ar6.1.1 (by simp;omega) aol);refine go ?_;exact dvHx rfl ar6 ar6.1 erRi8;refine⟨λaza _ _ aum _ ar7 _ _ _=>?_,?_⟩;obtain⟨aza,rfl⟩:=ovE aum;have aun:=(Blk.gr ar7.1.1 (by simp;omega) aoz);refine go ?_;exact dvHx rfl ar7 ar7.1 erRi8;refine⟨λazh _ _ auo _ ar8 _ _ _=>?_,?_⟩;obtain⟨azh,rfl⟩:=ovE auo;have aup:=(Blk.gr ar8.1.1 (by simp;omega) aom);refine go ?_;exact dvHx rfl ar8 ar8.1 erRi8;refine⟨λar9 _ _ azq asa aqs _ _ _=>?_,?_⟩;obtain⟨ar9,rfl⟩:=ovE azq
 have auq:=zpv (asa 9 _ _ rfl rfl);have aur:=zpv (asa 10 _ _ rfl rfl);have aus:=zpv (asa 11 _ _ rfl rfl);have asb:=low_gr sc aqs.1.1 (bz sc) (λg hgg=>by cases hgg;omega);refine clb en2105 (hc:=cEq (Y:=.agg #[S (qR na nb).1,S (qR na nb).2]) (scaled_ok qv qh qs q2s hs0 (ht.ext asb)) (by rw[hm2])) (hk:=?_) (hv:=cons_eq auq (cons_eq aur (cons_eq aus rfl)));rintro _ _ aqt rfl;refine go ?_;exact dvHx rfl aqs ⟨gb_ext aqs.1.1 aqt.2,Mpb.ext aqt.2 aqs.1.2⟩ aqt.2;refine⟨λas3 _ _ azy as4 ao9 _ _ _=>?_,?_⟩;obtain⟨as3,rfl⟩:=ovE azy;have aut:=zpv (as4 8 _ _ rfl rfl);have auu:=zpv (as4 12 _ _ rfl rfl);have aol:=(Blk.gr ao9.1.1 (by simp;omega) aol);have aom:=(Blk.gr ao9.1.1 (by simp;omega) aom);have aoo:=(Blk.gr ao9.1.1 (by simp;omega) aoo);have aoz:=(Blk.gr ao9.1.1 (by simp;omega) aoz);have ao3:=(Blk.gr ao9.1.1 (by simp;omega) ao3);have ao4:=(Blk.gr ao9.1.1 (by simp;omega) ao4);have ao5:=(own_gr ao9.1.1 (by simp[Value.ownBlock];omega) ao5);have Thm:=(Blk.gr ao9.1.1 (by simp;omega) Thm);have Thp:=(Blk.gr ao9.1.1 (by simp;omega) Thp);have Thn:=(Blk.gr ao9.1.1 (by simp;omega) Thn);have Thf:=(Blk.gr ao9.1.1 (by simp;omega) Thf);have apy:=(Blk.gr ao9.1.1 (by simp;omega) apy);have Tmp:=ao9.1.2;have ast:=bt aol;have asu:=bt aom;have asv:=bt aoo;have asw:=bt aoz;have asx:=bt ao3;have asy:=bt ao4;have zlThm:=bt Thm;have zlThp:=bt Thp;have zlThn:=bt Thn;have zlThf:=bt Thf
 have aud:=bt apy;have az2:=ao9.1.1.size;have aqu:=low_gr sc ao9.1.1 (bz sc) (λg hgg=>by cases hgg;omega);refine l_op (k_callVA (vs:=[.agg #[S (qR na nb).1,S (qR na nb).2]]) (lb:=[pT tn_,pT tf_]) en2150 aut (cons_eq auu rfl) (tshare_ok qm2 qc2 qz2 hc2 hz2 Thm Thp Thn Thf Tmp hd2 hu2 (ht.ext aqu)) ?_);rintro _ _ ⟨apf,auv,rfl⟩;have az5:=apf.size;refine go ?_;exact dvH rfl ao9 ⟨gb_trans ao9.1.1 apf,auv⟩ apf (λg hgg=>by cases hgg;omega);refine⟨λas5 _ _ az8 as6 aqv _ _ _=>?_,?_⟩;obtain⟨as5,rfl⟩:=ovE az8;have auw:=zpv (as6 6 _ _ rfl rfl);have aux:=zpv (as6 13 _ _ rfl rfl);have asc:=low_gr sc aqv.1.1 (bz sc) (λg hgg=>by cases hgg;omega);refine clb en2044 (hc:=cEq (Y:=.tuple #[.agg #[S (qR ea eb).1,S (qR ea eb).2,S (qR fa fb).1,S (qR fa fb).2],.int .i64 0]) (encAdd_ok (x:=((Gf (qR (flI z1 y1 (tenI 6)) (tenI 6))).1,(Gf (qR (clI z1 y1 (tenI 6)) (tenI 6))).2)) (y:=((Gf (qR (flI z2 y2 (tenI 6)) (tenI 6))).1,(Gf (qR (clI z2 y2 (tenI 6)) (tenI 6))).2)) hi1 hi2 g1 g2 k1 k2 g3 g4 k3 k4 (ht.ext asc)) (by rw[he,hf])) (hk:=?_) (hv:=cons_eq auw (cons_eq aux rfl));rintro _ _ aqw rfl;refine go ?_;exact dvHx rfl aqv ⟨gb_ext aqv.1.1 aqw.2,Mpb.ext aqw.2 aqv.1.2⟩ aqw.2;refine⟨λauy _ _ a0g auz as7 _ _ _=>?_,?_⟩;obtain⟨auy,rfl⟩:=ovE a0g;have au0:=zpv (auz 14 _ _ rfl rfl);refine go ?_;exact dvHx rfl as7 as7.1 erRi8;refine⟨λau1 _ _ a0m au2 as8 _ _ _=>?_,?_⟩
 obtain⟨au1,rfl⟩:=ovE a0m;have au3:=zpv (au2 14 _ _ rfl rfl);refine go ?_;exact dvHx rfl as8 as8.1 erRi8;refine⟨λas9 _ _ a0s ata aqx _ _ _=>?_,?_⟩;obtain⟨as9,rfl⟩:=ovE a0s;have au4:=zpv (ata 15 _ _ rfl rfl);have au5:=zpv (ata 16 _ _ rfl rfl);refine cl en2104 (imust_ok (x:=(qR ea eb,qR fa fb))) ?_ (cons_eq au4 (cons_eq au5 rfl));rintro _ _ aqy rfl;refine go ?_;exact dvHx rfl aqx ⟨gb_ext aqx.1.1 aqy.2,Mpb.ext aqy.2 aqx.1.2⟩ aqy.2;refine⟨λa0y _ _ a01 _ aqz _ _ _=>?_,?_⟩;obtain⟨a0y,rfl⟩:=ovE a01;have asd:=low_gr sc aqz.1.1 (bz sc) (λg hgg=>by cases hgg;omega);have a06:=bz asd;refine al inf1032 (λ_ aq0 au6=>?_);refine go ?_;exact dvHa rfl aqz ⟨gb_ext aqz.1.1 aq0.2,Mpb.ext aq0.2 aqz.1.2⟩ aq0.2 au6;exact trivial;intro atc _ _ au7 atd au8 apg;obtain⟨atc,rfl⟩:=ovE atd;have aq1:=(Blk.gr apg.1.1 (by simp;omega) aol);have a1a:=bt aq1;have aq2:=(Blk.gr apg.1.1 (by simp;omega) aom);have a1b:=bt aq2;have aq3:=(Blk.gr apg.1.1 (by simp;omega) aoo);have a1c:=bt aq3;have aq4:=(Blk.gr apg.1.1 (by simp;omega) aoz);have a1d:=bt aq4;have aq5:=(Blk.gr apg.1.1 (by simp;omega) ao3);have a1e:=bt aq5;have aq6:=(Blk.gr apg.1.1 (by simp;omega) ao4);have a1f:=bt aq6;have ase:=(own_gr apg.1.1 (by simp[Value.ownBlock];omega) ao5);have aq7:=(Blk.gr apg.1.1 (by simp;omega) Thm);have a1g:=bt aq7;have aq8:=(Blk.gr apg.1.1 (by simp;omega) Thp);have a1h:=bt aq8
 have aq9:=(Blk.gr apg.1.1 (by simp;omega) Thn);have a1i:=bt aq9;have ara:=(Blk.gr apg.1.1 (by simp;omega) Thf);have a1j:=bt ara;have asf:=apg.1.2;have arb:=(Blk.gr apg.1.1 (by simp;omega) apy);have a1k:=bt arb;have a1l:=apg.1.1.size;have r8:=low_gr sc apg.1.1 (bz sc) (λg hgg=>by cases hgg;omega);have a1m:=bz r8;obtain⟨ap0,asg,_,ate⟩:=apg.2.2 (au7 18 rfl);have asg:=zpv asg;have a1o:=bt ate;have ash:atc 13=pT ap0:=(asg);have au9:=zpv (au8 17 _ _ rfl rfl);refine SA ate (λasi apu ava=>?_);have⟨aq1,aq2,aq3,aq4,aq5⟩:=pf5 apu aq1 aq2 aq3 aq4 aq5;have aq6:=pb apu aq6;have ase:=own_put apu (by simp[Value.ownBlock];omega) ase;have⟨aq7,aq8,aq9,ara⟩:=pf4 apu aq7 aq8 aq9 ara;have asf:=Mpb.put apu om asf;have⟨arb,r8,_⟩:=pl1 apu arb r8;refine go ?_;have aph:=Ext.drew asi
 refine c_st2 hmix 8 (λe0 ls e W=>∃ao6:Nat,(∀t,inB [59,60,61,62,63,64,65,66] t=false->e t=e0 t)∧(Ext w W)∧(asi.heap.size<=W.heap.size)∧(ls 0=true->e 59=.agg #[S (qR 1 1).1,S (qR 1 1).2])∧(ls 1=true->e 60=pT ap0)∧(ls 2=true->e 61=.agg #[S (qR ea eb).1,S (qR ea eb).2])∧(ls 3=true->e 62=.slice (some ⟨ao6,0,none⟩) 2 2)∧(ls 4=true->e 63=.agg #[S ((minQ 1 1 ea eb).1),S ((minQ 1 1 ea eb).2)])∧(ls 5=true->e 64=.agg #[S (qR 1 1).1,S (qR 1 1).2])∧(ls 6=true->e 65=.pointer (some ⟨ap0,2,none⟩))∧(ls 7=true->e 66=.agg #[S (qR fa fb).1,S (qR fa fb).2])∧(ls 3=true->asi.heap.size<=ao6)∧(Blk W (w.heap.size) 25 #[S (qR va vb).1,S (qR va vb).2])∧(Blk W (aqc.heap.size) 25 #[S (qR sa sb).1,S (qR sa sb).2])∧(Blk W (aqm.heap.size) 25 #[S (qR la lb).1,S (qR la lb).2])∧(Blk W (aqn.heap.size) 25 #[S (qR ha hb).1,S (qR ha hb).2])∧(Blk W (aqd.heap.size) 37 #[S ([]),S ([]),S ([]),S ([])])∧(Blk W (aqe.heap.size) 33 #[.int .i64 0])∧(World.ownsRow W (arx.heap.size) 25 2 (.slice (some ⟨arx.heap.size,0,none⟩) 4 4) 4 [S (qR va vb).1,S (qR va vb).2,S (qR sa sb).1,S (qR sa sb).2,S (qR la lb).1,S (qR la lb).2,S (qR ha hb).1,S (qR ha hb).2])∧(Blk W tm_ 180 #[.map (some tb_)])∧(Blk W tp_ 3 #[.int .i64 pl])∧(Blk W tn_ 25 #[S (qR 9 1).1,S (qR 9 1).2])∧(Blk W tf_ 67 #[.func (.func 154) #[] #[pT tm_,pT tp_]])∧(Mpb W tb_ (ivV Gf))∧(Blk W (ap1.heap.size) 151 #[.int .i64 pl,.func (.func 156) #[] #[pT tn_,pT tf_]])∧(Blk W ap0 37 #[S (qR ea eb).1,S (qR ea eb).2,S (qR fa fb).1,S (qR fa fb).2])∧(ls 3=true->World.ownsRow W ao6 25 2 (.slice (some ⟨ao6,0,none⟩) 2 2) 2 [S (qR 1 1).1,S (qR 1 1).2,S (qR ea eb).1,S (qR ea eb).2])) ⟨0,(λ_ _=>rfl),(xt r8 aph),(bz aph),(ff rfl),(ff rfl),(ff rfl),(ff rfl),(ff rfl),(ff rfl),(ff rfl),(ff rfl),(ff rfl),(be aph aq1),(be aph aq2),(be aph aq3),(be aph aq4),(be aph aq5),(be aph aq6),(own_ext aph ase),(be aph aq7),(be aph aq8),(be aph aq9),(be aph ara),(Mpb.ext aph asf),(be aph arb),(be aph ava),(λh=>ff rfl h)⟩ krRi8 krRi8 ?_ ?_
 refine⟨λa1q _ asj avb ask atf _=>?_,?_⟩;obtain⟨ao6,avc,r8,zst,api,apj,apk,apl,apm,apn,apo,apq,ao7,aop,aoq,aor,aos,ao0,aoy,ao1,aot,aou,aov,aow,ao2,aox,aon,apz⟩:=avb;obtain⟨a1q,rfl⟩:=ovE avc;have avd:asj 3=false:=(unl ask (i:=0) (j:=3) rfl atf);have ave:asj 4=false:=(unl ask (i:=0) (j:=4) rfl atf);have a1t:asj 5=false:=(unl ask (i:=4) (j:=5) rfl ave);have a1u:=bz r8;have arc:=bt aop;have ard:=bt aoq;have arf:=bt aor;have arh:=bt aos;have ari:=bt ao0;have arj:=bt aoy;have ark:=bt aot;have arl:=bt aou;have arm:=bt aov;have arn:=bt aow;have aro:=bt aox;have arp:=bt aon;refine clb en2107 (hc:=whole_ok (n:=1) (by unfold In64;decide) (ht.ext r8)) (hk:=?_);rintro _ _ apv rfl;have⟨aop,aoq,aor,aos,ao0⟩:=bf5 apv.2 aop aoq aor aos ao0;have aoy:=be apv.2 aoy;have ao1:=own_ext apv.2 ao1;have⟨aot,aou,aov,aow⟩:=bf4 apv.2 aot aou aov aow;have ao2:=Mpb.ext apv.2 ao2;have⟨aox,aon,r8⟩:=be2 apv.2 aox aon r8;refine go ?_;exact⟨rfl,_,(act_put _ _ _ _ _).symm,ao6,(same_upd rfl avc),r8,om,(λ_=>rfl),apj,apk,apl,apm,apn,apo,apq,ao7,(aop),(aoq),(aor),(aos),(ao0),(aoy),(ao1),(aot),(aou),(aov),(aow),(ao2),(aox),(aon),(λavf=>ff avd avf)⟩;refine⟨λa1x _ arq avg arr avh _=>?_,?_⟩;obtain⟨ao6,atg,r8,zst,api,apj,apk,apl,apm,apn,apo,apq,ao7,aop,aoq,aor,aos,ao0,aoy,ao1,aot,aou,aov,aow,ao2,aox,aon,apz⟩:=avg
 obtain⟨a1x,rfl⟩:=ovE atg;have avi:arq 2=false:=(unl arr (i:=1) (j:=2) rfl avh);have ath:arq 3=false:=(unl arr (i:=2) (j:=3) rfl avi);have avj:arq 4=false:=(unl arr (i:=3) (j:=4) rfl ath);have a11:arq 5=false:=(unl arr (i:=4) (j:=5) rfl avj);have a12:=bz r8;refine go ?_;exact⟨rfl,_,(act_put _ _ _ _ _).symm,ao6,(same_upd rfl atg),r8,om,api,(λ_=>rfl),apk,apl,apm,apn,apo,apq,ao7,(aop),(aoq),(aor),(aos),(ao0),(aoy),(ao1),(aot),(aou),(aov),(aow),(ao2),(aox),(aon),(λavk=>ff ath avk)⟩;refine⟨λavl _ ars avm asl avn avo=>?_,?_⟩;obtain⟨ao6,avp,r8,zst,api,apj,apk,apl,apm,apn,apo,apq,ao7,aop,aoq,aor,aos,ao0,aoy,ao1,aot,aou,aov,aow,ao2,aox,aon,apz⟩:=avm;obtain⟨avl,rfl⟩:=ovE avp;have avq:ars 1=true:=(avo 1 rfl);have ati:ars 3=false:=(unl asl (i:=2) (j:=3) rfl avn);have avr:ars 4=false:=(unl asl (i:=3) (j:=4) rfl ati);have a14:ars 5=false:=(unl asl (i:=4) (j:=5) rfl avr);have avs:avl 60=pT ap0:=apj avq;have a15:=bz r8;refine go ?_;exact⟨rfl,_,(act_put _ _ _ _ _).symm,ao6,(same_upd rfl avp),r8,om,api,apj,(λ_=>rfl),apl,apm,apn,apo,apq,ao7,(aop),(aoq),(aor),(aos),(ao0),(aoy),(ao1),(aot),(aou),(aov),(aow),(ao2),(aox),(aon),(λavt=>ff ati avt)⟩;refine⟨λatj avu aqh avv asm avw atk=>?_,?_⟩
 obtain⟨ao6,avx,r8,zst,api,apj,apk,apl,apm,apn,apo,apq,ao7,aop,aoq,aor,aos,ao0,aoy,ao1,aot,aou,aov,aow,ao2,aox,aon,apz⟩:=avv;obtain⟨atj,rfl⟩:=ovE avx;have atl:aqh 2=true:=(atk 2 rfl);have a16:aqh 1=true:=(asm 2 1 rfl atl);have avy:aqh 0=true:=(atk 0 rfl);have avz:aqh 4=false:=(unl asm (i:=3) (j:=4) rfl avw);have a17:aqh 5=false:=(unl asm (i:=4) (j:=5) rfl avz);have av0:atj 59=.agg #[S (qR 1 1).1,S (qR 1 1).2]:=api avy;have av1:atj 61=.agg #[S (qR ea eb).1,S (qR ea eb).2]:=apk atl;have a18:=bz r8;have arc:=bt aop;have ard:=bt aoq;have arf:=bt aor;have arh:=bt aos;have ari:=bt ao0;have arj:=bt aoy;have ark:=bt aot;have arl:=bt aou;have arm:=bt aov;have arn:=bt aow;have aro:=bt aox;have arp:=bt aon;refine l_op (k_buildSlice (vs:=[(0,.agg #[S (qR 1 1).1,S (qR 1 1).2]),(1,.agg #[S (qR ea eb).1,S (qR ea eb).2])]) (cells:=#[S (qR 1 1).1,S (qR 1 1).2,S (qR ea eb).1,S (qR ea eb).2]) U23 inf36 (cons_eqp av0 (cons_eqp av1 rfl)) dc dc krRi8 rfl dc (λ_ apr _ av2=>?_));have⟨aop,aoq,aor,aos,ao0⟩:=bf5 apr aop aoq aor aos ao0;have aoy:=be apr aoy;have ao1:=own_ext apr ao1;have⟨aot,aou,aov,aow⟩:=bf4 apr aot aou aov aow;have ao2:=Mpb.ext apr ao2;have⟨aox,aon,r8⟩:=be2 apr aox aon r8;have a2b:=bz apr;refine go ?_
 exact⟨rfl,_,(act_put _ _ _ _ _).symm,avu.heap.size,(same_upd rfl avx),r8,om,api,apj,apk,(λ_=>rfl),apm,apn,apo,apq,(λ_=>om),(aop),(aoq),(aor),(aos),(ao0),(aoy),(ao1),(aot),(aou),(aov),(aow),(ao2),(aox),(aon),(λ_=>av2)⟩;refine⟨λav3 _ aqi av4 aso av5 atm=>?_,?_⟩;obtain⟨ao6,av6,r8,zst,api,apj,apk,apl,apm,apn,apo,apq,ao7,aop,aoq,aor,aos,ao0,aoy,ao1,aot,aou,aov,aow,ao2,aox,aon,apz⟩:=av4;obtain⟨av3,rfl⟩:=ovE av6;have a2e:aqi 0=true:=(atm 0 rfl);have art:aqi 3=true:=(atm 3 rfl);have av7:aqi 2=true:=(aso 3 2 rfl art);have a2f:aqi 1=true:=(aso 2 1 rfl av7);have a2g:aqi 5=false:=(unl aso (i:=4) (j:=5) rfl av5);have av8:av3 62=.slice (some ⟨ao6,0,none⟩) 2 (2):=apl art;have a2h:=bz r8;have atn:=ao7 art;have arc:=bt aop;have ard:=bt aoq;have arf:=bt aor;have arh:=bt aos;have ari:=bt ao0;have arj:=bt aoy;have ark:=bt aot;have arl:=bt aou;have arm:=bt aov;have arn:=bt aow;have aro:=bt aox;have arp:=bt aon;have aru:=apz art;refine cl en2106 (least_ok (a:=1) (b:=1) (c:=ea) (d:=eb) (Rw.of_own aru) q911 qe (ht.ext r8)) ?_ (cons_eq av8 rfl);rintro _ _ aps rfl;have⟨aop,aoq,aor,aos,ao0⟩:=bf5 aps.2 aop aoq aor aos ao0;have aoy:=be aps.2 aoy;have ao1:=own_ext aps.2 ao1;have⟨aot,aou,aov,aow⟩:=bf4 aps.2 aot aou aov aow;have ao2:=Mpb.ext aps.2 ao2;have⟨aox,aon⟩:=bf2 aps.2 aox aon;have aru:=own_ext aps.2 aru
 have r8:=xt r8 aps.2;refine go ?_;exact⟨rfl,_,(act_put _ _ _ _ _).symm,ao6,(same_upd rfl av6),r8,om,api,apj,apk,apl,(λ_=>rfl),apn,apo,apq,ao7,(aop),(aoq),(aor),(aos),(ao0),(aoy),(ao1),(aot),(aou),(aov),(aow),(ao2),(aox),(aon),(λ_=>aru)⟩;refine⟨λa2l _ aqj av9 arv _ awa=>?_,?_⟩;obtain⟨ao6,awb,r8,zst,api,apj,apk,apl,apm,apn,apo,apq,ao7,aop,aoq,aor,aos,ao0,aoy,ao1,aot,aou,aov,aow,ao2,aox,aon,apz⟩:=av9;obtain⟨a2l,rfl⟩:=ovE awb;have ato:aqj 4=true:=(awa 4 rfl);have a2o:aqj 0=true:=(arv 4 0 rfl ato);have asp:aqj 3=true:=(arv 4 3 rfl ato);have awc:aqj 2=true:=(arv 3 2 rfl asp);have a2p:aqj 1=true:=(arv 2 1 rfl awc);have a2q:=bz r8;have atn:=ao7 asp;have arc:=bt aop;have ard:=bt aoq;have arf:=bt aor;have arh:=bt aos;have ari:=bt ao0;have arj:=bt aoy;have ark:=bt aot;have arl:=bt aou;have arm:=bt aov;have arn:=bt aow;have aro:=bt aox;have arp:=bt aon;have asq:=apz asp;refine clb en2107 (hc:=whole_ok (n:=1) (by unfold In64;decide) (ht.ext r8)) (hk:=?_);rintro _ _ apt rfl;have⟨aop,aoq,aor,aos,ao0⟩:=bf5 apt.2 aop aoq aor aos ao0;have aoy:=be apt.2 aoy;have ao1:=own_ext apt.2 ao1;have⟨aot,aou,aov,aow⟩:=bf4 apt.2 aot aou aov aow;have ao2:=Mpb.ext apt.2 ao2;have⟨aox,aon⟩:=bf2 apt.2 aox aon;have asq:=own_ext apt.2 asq;have r8:=xt r8 apt.2;refine go ?_
 exact⟨rfl,_,(act_put _ _ _ _ _).symm,ao6,(same_upd rfl awb),r8,om,api,apj,apk,apl,apm,(λ_=>rfl),apo,apq,ao7,(aop),(aoq),(aor),(aos),(ao0),(aoy),(ao1),(aot),(aou),(aov),(aow),(ao2),(aox),(aon),(λ_=>asq)⟩;refine⟨λa2u _ awd awe awf awg _=>?_,?_⟩;obtain⟨ao6,atp,r8,zst,api,apj,apk,apl,apm,apn,apo,apq,ao7,aop,aoq,aor,aos,ao0,aoy,ao1,aot,aou,aov,aow,ao2,aox,aon,apz⟩:=awe;obtain⟨a2u,rfl⟩:=ovE atp;have a2x:awd 7=false:=(unl awf (i:=6) (j:=7) rfl awg);have a2y:=bz r8;refine go ?_;exact⟨rfl,_,(act_put _ _ _ _ _).symm,ao6,(same_upd rfl atp),r8,om,api,apj,apk,apl,apm,apn,(λ_=>rfl),apq,ao7,(aop),(aoq),(aor),(aos),(ao0),(aoy),(ao1),(aot),(aou),(aov),(aow),(ao2),(aox),(aon),(λawh=>apz awh)⟩;refine⟨λawi _ awj awk _ _ awl=>?_,?_⟩;obtain⟨ao6,awm,r8,zst,api,apj,apk,apl,apm,apn,apo,apq,ao7,aop,aoq,aor,aos,ao0,aoy,ao1,aot,aou,aov,aow,ao2,aox,aon,apz⟩:=awk;obtain⟨awi,rfl⟩:=ovE awm;have awn:awj 6=true:=(awl 6 rfl);have awo:awi 65=.pointer (some ⟨ap0,2,none⟩):=apo awn;have a24:=bz r8;refine go ?_;exact⟨rfl,_,(act_put _ _ _ _ _).symm,ao6,(same_upd rfl awm),r8,om,api,apj,apk,apl,apm,apn,apo,(λ_=>rfl),ao7,(aop),(aoq),(aor),(aos),(ao0),(aoy),(ao1),(aot),(aou),(aov),(aow),(ao2),(aox),(aon),(λawp=>apz awp)⟩;exact trivial;intro aqk _ _ aql awr
 obtain⟨ao6,atq,r8,zst,api,apj,apk,apl,apm,apn,apo,apq,ao7,aop,aoq,aor,aos,ao0,aoy,ao1,aot,aou,aov,aow,ao2,aox,aon,apz⟩:=awr;obtain⟨aqk,rfl⟩:=ovE atq;have a26:=bz r8;have atn:=ao7 (aql 3 rfl);have arc:=bt aop;have ard:=bt aoq;have arf:=bt aor;have arh:=bt aos;have ari:=bt ao0;have arj:=bt aoy;have ark:=bt aot;have arl:=bt aou;have arm:=bt aov;have arn:=bt aow;have aro:=bt aox;have arp:=bt aon;have ap8:=apz (aql 3 rfl);have aws:aqk 64=.agg #[S (qR 1 1).1,S (qR 1 1).2]:=(apn (aql 5 rfl));have awt:aqk 66=.agg #[S (qR fa fb).1,S (qR fa fb).2]:=(apq (aql 7 rfl));refine l_op (k_buildSlice (vs:=[(0,.agg #[S (qR 1 1).1,S (qR 1 1).2]),(1,.agg #[S (qR fa fb).1,S (qR fa fb).2])]) (cells:=#[S (qR 1 1).1,S (qR 1 1).2,S (qR fa fb).1,S (qR fa fb).2]) U23 inf36 (cons_eqp aws (cons_eqp awt rfl)) dc dc krRi8 rfl dc (λ_ apa _ aqa=>?_));have⟨aop,aoq,aor,aos,ao0⟩:=bf5 apa aop aoq aor aos ao0;have⟨aoy,aot,aou,aov,aow⟩:=bf5 apa aoy aot aou aov aow;have⟨aox,aon,r8⟩:=be2 apa aox aon r8;have a29:=bz apa;refine cl en2106 (least_ok (a:=1) (b:=1) (c:=fa) (d:=fb) (Rw.of_own aqa) q911 qf (ht.ext r8)) ?_;rintro _ _ apb rfl;have⟨aop,aoq,aor,aos,ao0⟩:=bf5 apb.2 aop aoq aor aos ao0;have⟨aoy,aot,aou,aov,aow⟩:=bf5 apb.2 aoy aot aou aov aow;have⟨aox,aon,r8⟩:=be2 apb.2 aox aon r8
 have awu:aqk 63=.agg #[S ((minQ 1 1 ea eb).1),S ((minQ 1 1 ea eb).2)]:=(apm (aql 4 rfl));refine l_op (k_build (vs:=[(0,.agg #[S ((minQ 1 1 ea eb).1),S ((minQ 1 1 ea eb).2)]),(1,.agg #[S ((minQ 1 1 fa fb).1),S ((minQ 1 1 fa fb).2)])]) (cells:=#[S ((minQ 1 1 ea eb).1),S ((minQ 1 1 ea eb).2),S ((minQ 1 1 fa fb).1),S ((minQ 1 1 fa fb).2)]) (pl:=[(0,2),(2,2)]) U1032 inf1032 krRi8 (cons_eqp awu (cons_eqp rfl rfl)) krRi8 ?_);refine SA ao0 (λ_ apc asr=>?_);have⟨aop,aoq,aor,aos,aoy⟩:=pf5 apc aop aoq aor aos aoy;have⟨aot,aou,aov,aow,aox⟩:=pf5 apc aot aou aov aow aox;have⟨aon,r8,_⟩:=pl1 apc aon r8;refine SO aoy (λ_ apd awv=>?_);have⟨aop,aoq,aor,aos,asr⟩:=pf5 apd aop aoq aor aos asr;have⟨aot,aou,aov,aow,aox⟩:=pf5 apd aot aou aov aow aox;have⟨aon,r8,_⟩:=pl1 apd aon r8;refine go ?_;refine t_retS (b1:=aqd.heap.size) (b2:=aqe.heap.size) (v:=.tuple #[.agg #[S ((minQ 1 1 ea eb).1),S ((minQ 1 1 ea eb).2),S ((minQ 1 1 fa fb).1),S ((minQ 1 1 fa fb).2)],.int .i64 0]) en2102 (λ_ _=>safe_ret) r8 (res2 (r1:=.cell 10 37) (r2:=.cell 11 33) rfl ?_ ?_) rfl;refine res_cellA (t:=10) (cs:=[S ((minQ 1 1 ea eb).1),S ((minQ 1 1 ea eb).2),S ((minQ 1 1 fa fb).1),S ((minQ 1 1 fa fb).2)]) (b:=aqd.heap.size) (o:=0) U1032 rfl sz1032 ?_ ?_;exact rfl;exact Blk.cells asr (i:=0) rfl;refine res_cell (t:=11) (b:=aqe.heap.size) (o:=0) U32 rfl ?_ ?_;exact rfl;exact Blk.cell awv rfl
end Go.Proofs.YtinldhphnpflaaaGreatDoor
namespace Go.Proofs.YtinldhphnpflaaaGreatDoor
open Go Go.Eng Go.RowKit
def NmC (pl:Nat)(N D f c:Int):Prop:=
  (N=0∧f=flI 1 2 (tenI pl)∧c=clI 1 2 (tenI pl))∨(8*D<=N∧f=tenI pl-1∧c=tenI pl)∨(N<=-8*D∧f=0∧c=1)∨(N≠0∧-8*D<N∧N<8*D∧FindR pl (nrmBd pl N D) f c)
def NrmC (N D:Int)(pl:Nat)(f c:Int):Prop:=∀w,Tb w->CL 155 #[QV N D,.int .i64 ((pl:Nat):Int)] w (Ret w λv _=>v=CellV pl f c)
theorem NmC.call {pl:Nat}{N D f c:Int}(h:NmC pl N D f c)(h1:0<D)(hN:N.natAbs<10^12)(hD:D<10^12)(h9:N.natAbs<=1000000*D.natAbs)(hp:pl<=12):NrmC N D pl f c:=by
  intro w ht
  rcases h with⟨h0,rfl,rfl⟩|⟨h0,rfl,rfl⟩|⟨h0,rfl,rfl⟩|⟨h0,h2,h3,hF⟩
  · exact normal_z h1 om h0 hp ht
  · exact normal_hi hN h1 hD h0 h9 hp ht
  · exact normal_lo hN h1 hD h0 h9 hp ht
  · exact normal_q hN h1 hD h0 h2 h3 hp hF ht
theorem ratio_le {a b c d k:Int}(hb:0<b)(hd:0<d)(e:a*d=c*b)(h:k*b<=a):k*d<=c:=by
  refine Int.le_of_mul_le_mul_right (a:=b) ?_ hb
  rw[<-e,show k*d*b=k*b*d by grind]
  exact Int.mul_le_mul_of_nonneg_right h (Int.le_of_lt hd)
theorem ratio_ge {a b c d k:Int}(hb:0<b)(hd:0<d)(e:a*d=c*b)(h:a<=k*b):c<=k*d:=by
  refine Int.le_of_mul_le_mul_right (a:=b) ?_ hb
  rw[<-e,show k*d*b=k*b*d by grind]
  exact Int.mul_le_mul_of_nonneg_right h (Int.le_of_lt hd)
theorem ratio_lt {a b c d k:Int}(hb:0<b)(hd:0<d)(e:a*d=c*b)(h:k*b<a):k*d<c:=by
  refine Int.lt_of_mul_lt_mul_right (a:=b) ?_ (Int.le_of_lt hb)
  rw[<-e,show k*d*b=k*b*d by grind]
  exact Int.mul_lt_mul_of_pos_right h hd
theorem ratio_gt {a b c d k:Int}(hb:0<b)(hd:0<d)(e:a*d=c*b)(h:a<k*b):c<k*d:=by
  refine Int.lt_of_mul_lt_mul_right (a:=b) ?_ (Int.le_of_lt hb)
  rw[<-e,show k*d*b=k*b*d by grind]
  exact Int.mul_lt_mul_of_pos_right h hd
theorem NmC.congr {pl:Nat}{a b c d f g:Int}(hb:0<b)(hd:0<d)(e:a*d=c*b)(h:NmC pl a b f g):NmC pl c d f g:=by
  rcases h with⟨h0,h1,h2⟩|⟨h0,h1,h2⟩|⟨h0,h1,h2⟩|⟨h0,h2,h3,hF⟩
  · refine Or.inl ⟨?_,h1,h2⟩
    rw[h0,Int.zero_mul]at e
    rcases Int.mul_eq_zero.1 e.symm with h|h
    · exact h
    · omega
  · exact Or.inr (Or.inl ⟨ratio_le hb hd e h0,h1,h2⟩)
  · exact Or.inr (Or.inr (Or.inl ⟨ratio_ge hb hd e h0,h1,h2⟩))
  · refine Or.inr (Or.inr (Or.inr ⟨λh=>h0 ?_,ratio_lt hb hd e h2,ratio_gt hb hd e h3,?_⟩))
    · rw[h,Int.zero_mul]at e
      rcases Int.mul_eq_zero.1 e with h|h
      · exact h
      · omega
    · obtain⟨e1,e2⟩:=red_congr hb hd e
      unfold nrmBd at *
      rw[<-e1,<-e2];exact hF
theorem NmC.uniq {pl:Nat}{a b f c f' c':Int}(hb:0<b)(h:NmC pl a b f c)(h':NmC pl a b f' c'):f=f'∧c=c':=by
  rcases h with⟨h0,h1,h2⟩|⟨h0,h1,h2⟩|⟨h0,h1,h2⟩|⟨h0,h2,h3,hF⟩ <;>rcases h' with⟨k0,k1,k2⟩|⟨k0,k1,k2⟩|⟨k0,k1,k2⟩|⟨k0,k2,k3,kF⟩
  all_goals first|exact hF.uniq kF|(constructor <;>omega)|(exfalso;omega)
open Classical in
noncomputable def GfN (pl:Nat) (q:R):R×R:=
  if h:∃y:Int×Int,∃a b:Int,0<b∧q=qR a b∧NmC pl a b y.1 y.2 then(qR h.choose.1 (tenI pl),qR h.choose.2 (tenI pl))else(q,q)
theorem NmC.gf {pl:Nat}{a b f c:Int}(hb:0<b)(h:NmC pl a b f c):GfN pl (qR a b)=(qR f (tenI pl),qR c (tenI pl)):=by
  have hx:∃y:Int×Int,∃a' b':Int,0<b'∧qR a b=qR a' b'∧NmC pl a' b' y.1 y.2:=⟨(f,c),a,b,hb,rfl,h⟩
  unfold GfN
  rw[dif_pos hx]
  obtain⟨a',b',hb',e,hy⟩:=hx.choose_spec
  obtain⟨e1,e2⟩:=(hy.congr hb' hb (qR_inj hb hb' e).symm).uniq hb h
  rw[e1,e2]
def clp (n d:Int):Int×Int:=if n<9*d then(if -9*d<n then(n,d)else(-9,1))else(9,1)
theorem clp_pos {n d:Int}(hd:0<d):0<(clp n d).2:=by unfold clp;split <;>(try split) <;>simp_all
theorem clp_bd {n d:Int}(hd:0<d):-9*(clp n d).2<=(clp n d).1∧(clp n d).1<=9*(clp n d).2:=by
  unfold clp;split
  · split
    · simp only;omega
    · simp only;omega
  · simp only;omega
def Sh (pl:Nat)(n d f c:Int):Prop:=∃f' c',NmC pl (flI (clp n d).1 (clp n d).2 (tenI 6)) (tenI 6) f c'∧NmC pl (clI (clp n d).1 (clp n d).2 (tenI 6)) (tenI 6) f' c∧f<=c∧0<=f∧c<=tenI pl
theorem fl_bd {n d t k:Int}(hd:0<d)(ht:0<t)(h1:-k*d<=n)(h2:n<=k*d):-k*t<=flI n d t∧clI n d t<=k*t:=by
  unfold flI clI
  have e1:-k*t*d<=n*t:=by
    rw[show -k*t*d=-k*d*t by grind];exact Int.mul_le_mul_of_nonneg_right h1 (Int.le_of_lt ht)
  have e2:n*t<=k*t*d:=by
    rw[show k*t*d=k*d*t by grind];exact Int.mul_le_mul_of_nonneg_right h2 (Int.le_of_lt ht)
  generalize n*t=m at *
  generalize -k*t=a at *
  generalize k*t=b at *
  have h3:=Int.emod_add_mul_ediv m d
  have h4:=Int.emod_nonneg m (show d≠0 by omega)
  have h5:=Int.emod_lt_of_pos m hd
  refine⟨Int.le_ediv_of_mul_le hd e1,?_⟩
  split
  · refine Int.le_of_mul_le_mul_right ?_ hd
    rename_i h6
    rw[Int.mul_comm (m/d) d];omega
  · have:m/d<b:=by
      refine Int.lt_of_mul_lt_mul_right (a:=d) ?_ (Int.le_of_lt hd)
      rw[Int.mul_comm (m/d) d];omega
    omega
theorem q9_cell {f:Int}{pl:Nat}(h:f.natAbs<10^70)(hp:pl<=12):Q9 f (tenI pl):=ten_q9 (Nat.lt_trans h dc) om
theorem ten_12 {pl:Nat}(h:pl<=12):tenI pl<=1000000000000:=by
  have h1:(10:Nat)^pl<=10^12:=Nat.pow_le_pow_right dc h
  unfold tenI;omega
theorem ten6:tenI 6=1000000:=by decide
theorem minQ_T {k T:Int}(hT:0<T):minQ 1 1 k T=qR (min k T) T:=by
  unfold minQ
  by_cases h:k<T
  · rw[mn_t (decide_eq_true (cmpI_lt0 om)),show min k T=k by omega]
  · rw[mn_f (decide_eq_false (cmpI_nlt om)),show min k T=T by omega]
    exact qR_congr dc hT om
theorem clp_min {n d:Int}:minQ 9 1 n d=qR (if n<9*d then n else 9) (if n<9*d then d else 1):=by
  unfold minQ
  by_cases h:n<9*d
  · rw[mn_t (decide_eq_true (cmpI_lt0 om)),if_pos h,if_pos h]
  · rw[mn_f (decide_eq_false (cmpI_nlt om)),if_neg h,if_neg h]
theorem clp_max {n d:Int}:maxQ (-9) 1 (if n<9*d then n else 9) (if n<9*d then d else 1)=qR (clp n d).1 (clp n d).2:=by
  unfold maxQ clp
  by_cases h:n<9*d
  · simp only[if_pos h]
    by_cases h2:-9*d<n
    · rw[mn_t (decide_eq_true (cmpI_gt0 om)),if_pos h2]
    · rw[mn_f (decide_eq_false (cmpI_ngt om)),if_neg h2]
  · simp only[if_neg h]
    rw[mn_t (decide_eq_true dc)]
theorem clp_q9 {n d:Int}(h1:n.natAbs<10^12)(h2:0<d)(h3:d<10^12):Q9 (if n<9*d then n else 9) (if n<9*d then d else 1)∧Q9 (clp n d).1 (clp n d).2:=by
  have q:Q9 n d:=q9_12 h1 h2 h3
  have a9:Q9 9 1:=⟨by decide,by decide,by decide⟩
  have b9:Q9 (-9) 1:=⟨by decide,by decide,by decide⟩
  constructor
  · by_cases h:n<9*d
    · rw[if_pos h,if_pos h];exact q
    · rw[if_neg h,if_neg h];exact a9
  · unfold clp;split
    · split
      · exact q
      · exact b9
    · exact a9
section
variable {va vb sa sb la lb ha hb n1 d1 n2 d2 f1 c1 f2 c2:Int}{pl:Nat}{w:World}
theorem q9_24 {a b c d:Int}(h1:a.natAbs<10^12)(h2:b.natAbs<10^12)(h3:c.natAbs<10^12)(h4:d.natAbs<10^12):(a*b-c*d).natAbs<10^25:=by
  have e1:(a*b).natAbs<10^24:=by rw[Int.natAbs_mul,show 10^24=10^12*10^12 by decide];exact Nat.mul_lt_mul_of_lt_of_lt h1 h2
  have e2:(c*d).natAbs<10^24:=by rw[Int.natAbs_mul,show 10^24=10^12*10^12 by decide];exact Nat.mul_lt_mul_of_lt_of_lt h3 h4
  omega
theorem q9_sub {a b c d:Int}(h1:a.natAbs<10^12)(h2:0<b)(h2':b<10^12)(h3:c.natAbs<10^12)(h4:0<d)(h4':d<10^12):Q9 (a*d-c*b) (b*d):=by
  refine⟨Nat.lt_trans (q9_24 h1 om h3 om) dc,Int.mul_pos h2 h4,?_⟩
  have e2:(b*d).natAbs<10^24:=by rw[Int.natAbs_mul,show 10^24=10^12*10^12 by decide];exact Nat.mul_lt_mul_of_lt_of_lt om om
  omega
theorem ShR.mk {a b:Int}(h1:a.natAbs<10^12)(h2:0<b)(h3:b<10^12):ShR (qR a b):=⟨a,b,rfl,q9_12 h1 h2 h3,h1,h3⟩
theorem IvR.cell {f c:Int}(h1:f<=c)(h2:0<=f)(h3:c<=tenI pl)(hp:pl<=12):IvR (qR f (tenI pl),qR c (tenI pl)):=by
  have hT:=ten_12 hp
  have hT0:=ten_pos pl
  exact⟨f,tenI pl,c,tenI pl,rfl,rfl,q9_cell om hp,q9_cell om hp,Int.mul_le_mul_of_nonneg_right h1 (Int.le_of_lt hT0)⟩
theorem outside_sh (p1:1<=pl)(p12:pl<=12)(v1:va.natAbs<10^12)(v2:0<vb)(v3:vb<10^12)(s1:0<sa)(s1':sa<10^12)(s2:0<sb)(s3:sb<10^12)(l1:la.natAbs<10^12)(l2:0<lb)(l3:lb<10^12)(h1:ha.natAbs<10^12)(h2:0<hb)(h3:hb<10^12)(hlh:la*hb<ha*lb)(e1:(la*vb-va*lb)*sb*d1=n1*(lb*vb*sa))(e2:(va*hb-ha*vb)*sb*d2=n2*(vb*hb*sa))(m1:n1.natAbs<10^12)(m2:0<d1)(m3:d1<10^12)(k1:n2.natAbs<10^12)(k2:0<d2)(k3:d2<10^12)(x1:Sh pl n1 d1 f1 c1)(x2:Sh pl n2 d2 f2 c2)(ht:Tb w):
    CL 75 #[QV va vb,QV sa sb,QV la lb,QV ha hb,.int .i64 ((pl:Nat):Int)] w (Ret w λv _=>v=.tuple #[IV (min (f1+f2) (tenI pl)) (tenI pl) (min (c1+c2) (tenI pl)) (tenI pl),.int .i64 0]):=by
  obtain⟨_,_,a1,b1,i1,j1,g1⟩:=x1
  obtain⟨_,_,a2,b2,i2,j2,g2⟩:=x2
  have hT:=ten_12 p12
  have hT0:=ten_pos pl
  have z1:=clp_pos (n:=n1) m2
  have z2:=clp_pos (n:=n2) k2
  obtain⟨y1,y2⟩:=clp_bd (n:=n1) m2
  obtain⟨y3,y4⟩:=clp_bd (n:=n2) k2
  obtain⟨_,_⟩:=fl_bd z1 (ten_pos 6) y1 y2
  obtain⟨_,_⟩:=fl_bd z2 (ten_pos 6) y3 y4
  have t5:=cl_fl_le (a:=(clp n1 d1).1) (b:=(clp n1 d1).2) (t:=tenI 6)
  have t6:=cl_fl_le (a:=(clp n2 d2).1) (b:=(clp n2 d2).2) (t:=tenI 6)
  have cd:∀x:Int,-9*tenI 6<=x->x<=9*tenI 6->x.natAbs<10^12∧x.natAbs<=1000000*(tenI 6).natAbs:=by rw[ten6];intro x h1 h2;omega
  have h6:tenI 6<10^12:=by rw[ten6];decide
  have q1:=clp_q9 (n:=n1) m1 m2 m3
  have q2:=clp_q9 (n:=n2) k1 k2 k3
  have A1:=a1.call (ten_pos 6) (cd _ om om).1 h6 (cd _ om om).2 p12
  have B1:=b1.call (ten_pos 6) (cd _ om om).1 h6 (cd _ om om).2 p12
  have A2:=a2.call (ten_pos 6) (cd _ om om).1 h6 (cd _ om om).2 p12
  have B2:=b2.call (ten_pos 6) (cd _ om om).1 h6 (cd _ om om).2 p12
  have G1:=a1.gf (ten_pos 6)
  have G2:=b1.gf (ten_pos 6)
  have G3:=a2.gf (ten_pos 6)
  have G4:=b2.gf (ten_pos 6)
  have hX:∀n d f c,NrmC n d pl f c->GfN pl (qR n d)=(qR f (tenI pl),qR c (tenI pl))->∀W,Tb W->CL 155 #[QV n d,.int .i64 ((pl:Nat):Int)] W (Ret W λv _=>v=.tuple #[.agg #[S (GfN pl (qR n d)).1.1,S (GfN pl (qR n d)).1.2,S (GfN pl (qR n d)).2.1,S (GfN pl (qR n d)).2.2],.int .i64 0]):=by
    intro n d f c hc hg W hW
    rw[hg];exact hc W hW
  have R1:=outside_ok (va:=va) (vb:=vb) (sa:=sa) (sb:=sb) (la:=la) (lb:=lb) (ha:=ha) (hb:=hb) (ma:=n1) (mb:=d1) (na:=n2) (nb:=d2) (Gf:=GfN pl) (w:=w) (ea:=f1+f2) (eb:=tenI pl) (fa:=c1+c2) (fb:=tenI pl) p1 p12 (q9_12 v1 v2 v3) (q9_12 om s2 s3) (q9_12 l1 l2 l3) (q9_12 h1 h2 h3) (by
      intro q hq
      simp only[List.mem_cons,List.not_mem_nil,or_false]at hq
      rcases hq with rfl|rfl|rfl|rfl
      · exact ShR.mk v1 v2 v3
      · exact ShR.mk om s2 s3
      · exact ShR.mk l1 l2 l3
      · exact ShR.mk h1 h2 h3) s1 (decide_eq_true (cmpI_lt0 om)) (decide_eq_true (cmpI_lt0 hlh)) (q9_sub l1 l2 l3 v1 v2 v3) (q9_sub v1 v2 v3 h1 h2 h3)
    (qR_congr (Int.mul_pos (Int.mul_pos l2 v2) s1) m2 e1) (qR_congr (Int.mul_pos (Int.mul_pos v2 h2) s1) k2 e2)
    (q9_12 m1 m2 m3) q1.1 q1.2 clp_min clp_max (q9_12 k1 k2 k3) q2.1 q2.2 clp_min clp_max
    (hX _ _ _ _ A1 G1) (hX _ _ _ _ B1 G2) (hX _ _ _ _ A2 G3) (hX _ _ _ _ B2 G4)
    (by rw[G1,G2];exact IvR.cell i1 j1 g1 p12) (by rw[G3,G4];exact IvR.cell i2 j2 g2 p12)
    (a1:=f1) (b1:=tenI pl) (c1:=c1) (d1:=tenI pl) (a2:=f2) (b2:=tenI pl) (c2:=c2) (d2:=tenI pl)
    (by rw[G1]) (by rw[G2]) (q9_cell om p12) (q9_cell om p12) (by rw[G3]) (by rw[G4]) (q9_cell om p12) (q9_cell om p12)
    (qR_congr (Int.mul_pos hT0 hT0) hT0 (by grind)) (qR_congr (Int.mul_pos hT0 hT0) hT0 (by grind)) (q9_cell om p12) (q9_cell om p12) ht
  rw[minQ_T hT0,minQ_T hT0]at R1
  exact R1
end
theorem guC_nm {pl u:Nat}{f c:Int}(h:GuC pl u f c):NmC pl (-(u:Int)) (tenI 6) f c:=by
  rw[ten6]
  rcases h with⟨h,rfl,rfl⟩|⟨h0,h8,hF⟩
  · exact .inr (.inr (.inl ⟨by omega,rfl,rfl⟩))
  · exact .inr (.inr (.inr ⟨by omega,by omega,by omega,hF⟩))
theorem fl_neg {B S:Nat}(hS:0<S):flI (-(B:Int)) (1000*(S:Int)) (tenI 6)=-(((B*1000+(S-1))/S:Nat):Int)∧clI (-(B:Int)) (1000*(S:Int)) (tenI 6)=-((B*1000/S:Nat):Int):=by
  rw[ten6]
  have e:-(B:Int)*1000000=1000*-((B*1000:Nat):Int):=by omega
  have hS0:(0:Int)<S:=by omega
  unfold flI clI
  rw[e,Int.mul_ediv_mul_of_pos _ _ dc,Int.mul_emod_mul_of_pos _ _ dc]
  generalize B*1000=v
  have h1:=Nat.div_add_mod v S
  have h2:=Nat.mod_lt v hS
  have c1:-((v:Nat):Int)/(S:Int)=-(((v+(S-1))/S:Nat):Int):=by
    rcases Nat.eq_zero_or_pos (v%S)with m0|m0
    · have h3:(v+(S-1))/S=v/S:=by
        rw[Nat.div_eq_iff hS];rw[Nat.mul_comm (v/S) S];omega
      have h4:((v:Nat):Int)=S*((v/S:Nat):Int):=by rw[<-Int.natCast_mul];omega
      rw[h3]
      generalize ((v/S:Nat):Int)=q at *
      rw[h4,Int.neg_mul_eq_mul_neg,Int.mul_ediv_cancel_left _ om]
    · have h3:(v+(S-1))/S=v/S+1:=by
        rw[Nat.div_eq_iff hS,Nat.add_mul,Nat.mul_comm (v/S) S];omega
      rw[h3]
      have h4:((v:Nat):Int)=S*((v/S:Nat):Int)+((v%S:Nat):Int):=by rw[<-Int.natCast_mul];omega
      rw[show(-((v:Nat):Int))=(S-((v%S:Nat):Int))+S*(-(((v/S+1:Nat):Nat):Int))by rw[h4,Int.natCast_add];generalize ((v/S:Nat):Int)=q;generalize ((v%S:Nat):Int)=r;rw[show((1:Nat):Int)=1 from rfl];grind]
      rw[Int.add_mul_ediv_left _ _ om,Int.ediv_eq_zero_of_lt om om];omega
  refine⟨c1,?_⟩
  rw[c1]
  by_cases m0:v%S=0
  · have h3:(v+(S-1))/S=v/S:=by
      rw[Nat.div_eq_iff hS];rw[Nat.mul_comm (v/S) S];omega
    have h5:1000*(-((v:Nat):Int)%(S:Int))=0:=by
      have:-((v:Nat):Int)%(S:Int)=0:=by
        exact Int.emod_eq_zero_of_dvd <| Int.dvd_neg.2 (Int.natCast_dvd_natCast.2 (Nat.dvd_of_mod_eq_zero m0))
      rw[this];rfl
    rw[if_pos h5,h3]
  · have h3:(v+(S-1))/S=v/S+1:=by
      rw[Nat.div_eq_iff hS,Nat.add_mul,Nat.mul_comm (v/S) S];omega
    have h5:¬1000*(-((v:Nat):Int)%(S:Int))=0:=by
      intro _
      have h6:-((v:Nat):Int)%(S:Int)=0:=by omega
      have h7:(S:Int)∣(v:Int):=Int.dvd_neg.1 (Int.dvd_of_emod_eq_zero h6)
      exact m0 (Nat.mod_eq_zero_of_dvd (Int.natCast_dvd_natCast.1 h7))
    rw[if_neg h5,h3];omega
theorem sh_gu {k z S W j pl:Nat}(h:GuP k (guD z S W j) (guU z S W j))(hp:pl<=8)(hS:1<=S):∃f c,Sh pl (-(guN z S W j:Int)) (1000*(S:Int)) f c∧f*2000<=k*tenI pl:=by
  obtain⟨f,c,f',c',h1,h2,h3,h4,h5,h6⟩:=h pl hp
  obtain⟨e1,e2⟩:=fl_neg (B:=guN z S W j) (S:=S) hS
  refine⟨f,c,?_,h6⟩
  by_cases h9:guN z S W j<9000*S
  · have ec:clp (-(guN z S W j:Int)) (1000*(S:Int))=(-(guN z S W j:Int),1000*(S:Int)):=by
      unfold clp
      rw[if_pos om,if_pos om]
    refine⟨f',c',?_,?_,h3,h4,h5⟩
    · rw[ec];simp only;rw[e1];exact guC_nm h1
    · rw[ec];simp only;rw[e2];exact guC_nm h2
  · have ec:clp (-(guN z S W j:Int)) (1000*(S:Int))=(-9,1):=by
      unfold clp
      rw[if_pos om,if_neg om]
    have d9:9000000<=guD z S W j:=by
      unfold guD
      rw[Nat.le_div_iff_mul_le om];omega
    have u9:9000000<=guU z S W j:=Nat.le_trans d9 (Nat.div_le_div_right (Nat.le_add_right _ _))
    have a1:f=0∧c'=1:=by rcases h1 with⟨_,a,b⟩|⟨_,a,_⟩;exact⟨a,b⟩;omega
    have a2:f'=0∧c=1:=by rcases h2 with⟨_,a,b⟩|⟨_,a,_⟩;exact⟨a,b⟩;omega
    refine⟨f',c',?_,?_,h3,h4,h5⟩
    · rw[ec,ten6];exact .inr (.inr (.inl ⟨by decide,a1.1,a1.2⟩))
    · rw[ec,ten6];exact .inr (.inr (.inl ⟨by decide,a2.1,a2.2⟩))
theorem guN_sym {z S W j:Nat}(hz:z*S<=200*W)(hj:j<=10):guN z S W j+guN z S W (10-j)=2000*W:=by
  unfold guN
  rw[show 10-(10-j)=j by omega]
  have e1:z*S*(10-j)+z*S*j=z*S*10:=by rw[<-Nat.mul_add];congr 1;omega
  have e2:(200*W-z*S)*(10-j)+(200*W-z*S)*j=(200*W-z*S)*10:=by rw[<-Nat.mul_add];congr 1;omega
  omega
end Go.Proofs.YtinldhphnpflaaaGreatDoor
