/- Part of the proof of a statement about an adjustment. -/
import Derived.Test.YtlmihmlnpjkblaaGreatDoorRat4ToMapLG
set_option linter.all false
namespace Go.Proofs.YtlmihmlnpjkblaaGreatDoor
variable {la lb c d e f cn cd l6 l7 u6 u7 c2 d2 e2 f2 j:Int}{ds:List Deferred}{rl bs ps:List Nat}{xs:List Value}{n cp k D pl b1 b2 b C ny CY nb CB b3 CR lo5 gf N M g bytes base lo p i:Nat}{A B Y kd:Option Addr}{P:Program}{w W W':World}
section
set_option maxRecDepth 100000
open Go Go.Eng Go.RowKit Tryz
attribute [local irreducible] wpListIn Code.wpIn Oper.wpIn Exit.then Exit.inBlock Exit.noGoto
set_option maxHeartbeats 40000000
def gt :aN w w:=aa0 _
def LW {l m:List UInt8}{fr:Int}:
 CL 46 #[.agg #[.slice A n cp,.slice B k D,S l,S m,.int .i64 fr],.int .i64 0] w (aH w λv w'=>v=.agg #[.slice A n cp,.slice B k D,S l,S m,.int .i64 fr]):=by
 refine aC func46 Z (I ?_);refine bx (λO Af E=>?_);have G:=Af.2;refine al dw (λ_ Ab H=>?_);have⟨E,G⟩:=bw Ab.2 E G;refine I ?_;refine cl fK dn ?_;rintro _ _ A2 rfl;have⟨E,H,G⟩:=cD A2.2 E H G;refine I ?_;(try refine aa (aM (cs:=[.slice A n cp,.slice B k D,S l,S m,.int .i64 fr]) (b:=w.heap.size) (o:=0) j5 Z df Z (aa1 E (i:=0) Z) ?_));refine aa (bo (b:=O.heap.size) (o:=0) (vs:=[.slice A n cp,.slice B k D,S l,S m,.int .i64 fr]) df Z Z zl H (qa3 Z) (λ_ A0 A1=>?_));have E:=pb A0 E;have G:=bA A0 G;refine I ?_;refine ba (v:=.agg #[.slice A n cp,.slice B k D,S l,S m,.int .i64 fr]) (cC  rfl ?_) G Z;refine ak (t:=4) (cs:=[.slice A n cp,.slice B k D,S l,S m,.int .i64 fr]) (b:=O.heap.size) (o:=0) j5 Z df ?_ ?_;exact Z;exact aa1 A1 (i:=0) Z
def va {l m:List UInt8}{fr:Int}{a b:Int}(hb1:ar w b1 40 #[.slice A n cp,.slice B k D,S l,S m,.int .i64 fr])(hb2:ar w b2 86 #[S ((qR la lb).1),S ((qR la lb).2),.int .i64 pl])(hCh:(∀W,aN w W->CL 105 #[QV a b,.int .i64 fr,.int .i64 pl] W (aH W λv _=>v=.tuple #[IV c d e f,.int .i64 0]))):
 CL 103 #[QV a b,pT b1,pT b2] w (aH w λv w'=>v=IV c d e f):=by
 have Ao:=bt hb1;have Ap:=bt hb2;refine aC func103 Z (I ?_);refine bx (λA1 A0 G=>?_);have⟨hb1,hb2⟩:=gu A0.2 hb1 hb2;have E:=A0.2;refine al k9 (λ_ Af H=>?_);have⟨hb1,hb2,G,E⟩:=fE Af.2 hb1 hb2 G E;refine I ?_;refine cl R2 (hCh _ E) ?_;rintro _ _ Ab rfl;have⟨hb1,hb2,G,H,E⟩:=ka Ab.2 hb1 hb2 G H E;refine I ?_;refine cl SP KW ?_;rintro _ _ Am rfl;have⟨hb1,hb2,G,H,E⟩:=ka Am.2 hb1 hb2 G H E;refine SA H (λ_ O A2=>?_);have⟨hb1,hb2,G⟩:=nW O hb1 hb2 G;have E:=bA O E;refine I ?_;refine ba (v:=IV c d e f) (cC  rfl ?_) E Z;refine ak (t:=4) (cs:=[S (qR c d).1,S (qR c d).2,S (qR e f).1,S (qR e f).2]) (b:=A1.heap.size) (o:=0) fJ Z eh ?_ ?_;exact Z;exact aa1 A2 (i:=0) Z
def Ht {fr:Int}{c d e f:Int}(hfr:¬fr=0)(hDn:∀W,Tb W->CL 100 #[QV cn cd,.int .i64 6] W (aH W λv _=>v=.tuple #[QV l6 l7,.int .i64 0]))(hUp:∀W,Tb W->CL 101 #[QV cn cd,.int .i64 6] W (aH W λv _=>v=.tuple #[QV u6 u7,.int .i64 0]))(ql:Q9 la lb)(qhi:Q9 u6 u7)(hfh:¬0<aQ (u6*1) (100*u7))(qc2:Q9 c2 d2)(hCh:(∀W,aN w W->CL 105 #[QV u6 u7,.int .i64 fr,.int .i64 pl] W (aH W λv _=>v=.tuple #[IV c2 d2 e2 f2,.int .i64 0])))(hA:0<=aQ (c2*lb) (la*d2))(ht:Tb w):
 CL 45 #[.agg #[S (qR la lb).1,S (qR la lb).2,.int .i64 pl],.agg #[.slice A n cp,.slice B k D,S (qR cn cd).1,S (qR cn cd).2,.int .i64 fr]] w (aH w λv w'=>v=.int .i64 1):=by
 refine aC func45 Z (I ?_);refine bx (λAm Vm Ay=>?_);have H:=Vm.2;refine bx (λA2 L3 D2=>?_);have⟨Ay,H⟩:=bw L3.2 Ay H;refine I ?_;refine u5 li 14 [5,6,12,13,14,15,16,17,18,19,20,21,22,23] [some (12,.pointer (some ⟨Am.heap.size,2,none⟩)),some (13,QV cn cd),some (14,.tuple #[QV l6 l7,.int .i64 0]),some (15,QV l6 l7),some (16,.int .i64 0),some (17,QV l6 l7),some (18,.pointer (some ⟨Am.heap.size,2,none⟩)),some (19,QV cn cd),some (20,.tuple #[QV u6 u7,.int .i64 0]),some (21,QV u6 u7),some (22,.int .i64 0),some (23,QV u6 u7),none,none] (XK (Eng.XH (λW=>aN A2 W) A2.heap.size 12 5 33 #[S [],S []]) A2.heap.size 12 5 13 6 33 #[S [],S []]) (XK.start (XH.start (ac3 A2))) q0 q0 q0 ?_ ?_;refine⟨λK3 _ _ Rm _ E0 _ _ _=>?_,?_⟩;obtain⟨K3,rfl⟩:=aU Rm;refine I ?_;exact sY (jC Z E0.1 E0.1.1 gt) E0 (λb _ h=>h);refine⟨λQ0 _ _ H3 Ne Ao _ _ _=>?_,?_⟩;obtain⟨Q0,rfl⟩:=aU H3;have bb:=bh (Ne 0 _ _ Z Z);have cT:=(be Ao.1.1 D2);refine I ?_;exact sY (jC Z Ao.1 Ao.1.1 gt) Ao (λb _ h=>h);refine⟨λKY _ _ H2 P1 Aq _ _ _=>?_,?_⟩;obtain⟨KY,rfl⟩:=aU H2;have L1:=bh (P1 1 _ _ Z Z);have W3:=xt H Aq.1.1;refine cl B7 (hDn _ (ht.ext W3)) ?_ (aw L1 (aw Z Z));rintro _ _ Aw rfl;refine I ?_
 exact sY (jC Z Aq.1 (Aq.1.1.trans Aw.2) Aw.2) Aq (λb _ h=>be Aw.2 h);refine⟨λP0 _ _ La a3 Az _ _ _=>?_,?_⟩;obtain⟨P0,rfl⟩:=aU La;have bZ:=bh (a3 2 _ _ Z Z);refine I ?_;exact sY (jC Z Az.1 Az.1.1 gt) Az (λb _ h=>h);refine⟨λan _ _ VW Li Av _ _ _=>?_,?_⟩;obtain⟨an,rfl⟩:=aU VW;have cf:=bh (Li 2 _ _ Z Z);refine I ?_;exact sY (jC Z Av.1 Av.1.1 gt) Av (λb _ h=>h);refine⟨λKp _ _ K2 E9 C0 _ _ _=>?_,?_⟩;obtain⟨Kp,rfl⟩:=aU K2;have X0:=bh (E9 3 _ _ Z Z);have W0:=bh (E9 4 _ _ Z Z);refine cl qB kY ?_ (aw X0 (aw W0 Z));rintro _ _ As rfl;refine I ?_;exact sY (jC Z C0.1 (C0.1.1.trans As.2) As.2) C0 (λb _ h=>be As.2 h);refine⟨λKC _ _ a2 _ CG _ _ _=>?_,?_⟩;obtain⟨KC,rfl⟩:=aU a2;refine I ?_;exact sY (jC Z CG.1 CG.1.1 gt) CG (λb _ h=>h);refine⟨λa8 _ _ T3 L4 Ap _ _ _=>?_,?_⟩;obtain⟨a8,rfl⟩:=aU T3;have bd:=bh (L4 6 _ _ Z Z);have bv:=(be Ap.1.1 D2);refine I ?_;exact sY (jC Z Ap.1 Ap.1.1 gt) Ap (λb _ h=>h);refine⟨λac _ _ KM No Ab _ _ _=>?_,?_⟩;obtain⟨ac,rfl⟩:=aU KM;have L2:=bh (No 7 _ _ Z Z);have a4:=xt H Ab.1.1;refine cl B8 (hUp _ (ht.ext a4)) ?_ (aw L2 (aw Z Z));rintro _ _ B0 rfl;refine I ?_
 exact sY (jC Z Ab.1 (Ab.1.1.trans B0.2) B0.2) Ab (λb _ h=>be B0.2 h);refine⟨λa6 _ _ H4 a5 Cr _ _ _=>?_,?_⟩;obtain⟨a6,rfl⟩:=aU H4;have cb:=bh (a5 8 _ _ Z Z);refine I ?_;exact sY (jC Z Cr.1 Cr.1.1 gt) Cr (λb _ h=>h);refine⟨λb0 _ _ ad Ix B1 _ _ _=>?_,?_⟩;obtain⟨b0,rfl⟩:=aU ad;have cV:=bh (Ix 8 _ _ Z Z);refine I ?_;exact sY (jC Z B1.1 B1.1.1 gt) B1 (λb _ h=>h);refine⟨λbW _ _ Lk FR nm _ _ _=>?_,?_⟩;obtain⟨bW,rfl⟩:=aU Lk;have S0:=bh (FR 9 _ _ Z Z);have Lj:=bh (FR 10 _ _ Z Z);refine cl qB kY ?_ (aw S0 (aw Lj Z));rintro _ _ E4 rfl;refine I ?_;exact sY (jC Z nm.1 (nm.1.1.trans E4.2) E4.2) nm (λb _ h=>be E4.2 h);refine⟨λa9 _ _ N0 _ Af _ _ _=>?_,?_⟩;obtain⟨a9,rfl⟩:=aU N0;have c9:=xt H Af.1.1;refine al aZ (λ_ B2 P2=>I ?_);exact XO Z (XH.new Af.1 (Af.1.1.trans B2.2) B2.2 P2) Af (λb _ h=>be B2.2 h);refine⟨λWV _ _ a0 _ od _ _ _=>?_,?_⟩;obtain⟨WV,rfl⟩:=aU a0;have bp:=xt H od.1.1;refine al aZ (λ_ E6 W2=>I ?_);exact XP Z (XH.keep od.1 (od.1.1.trans E6.2) E6.2) od.1.2.1 W2 (XH.ne od.1);exact trivial;intro Ax _ _ Ar S9 E7 A0;obtain⟨Ax,rfl⟩:=aU S9;have O:=(be A0.1.1 Ay);have G:=(be A0.1.1 D2);have E:=xt H A0.1.1
 obtain⟨W1,A1,_,X2⟩:=A0.1.2.2 (Ar 12 Z);obtain⟨V0,D1,_,E1,GC⟩:=A0.2 (Ar 13 Z);have GC:=LU A1 (GC (Ar 12 Z));have D1:=bh D1;have A1:=bh A1;have ce:Ax 5=pT W1:=(A1);have ch:=bh (E7 5 _ _ Z Z);refine SA X2 (λ_ E5 EW=>?_);have⟨O,G,E1⟩:=nW E5 O G E1;have E:=bA E5 E;have cc:Ax 6=pT V0:=(D1);have bq:=bh (E7 11 _ _ Z Z);refine SA E1 (λ_ G0 _=>?_);have⟨O,G,EW⟩:=nW G0 O G EW;have E:=bA G0 E;refine I ?_;refine aa (aE (vf:=[]) (vc:=[pT Am.heap.size,pT w.heap.size]) Z (aw Z (aw Z Z)) ?_);refine I ?_;refine bP 11 ?_;refine sf ?_;refine a7 (V:=.bool false) (λ_ _ Wa _=>?_) ?_;refine aa (l5 (vs:=[QV u6 u7]) (lb:=[]) Cg Z Z (no (Y:=.bool false) (yJ qhi (ht.ext (xt E Wa))) (qb2 Value.bool (qa2 hfh))) ?_);rintro _ _ T2 rfl;refine I ?_;exact fs ⟨T2.2,rfl⟩;refine sf ?_;refine a7 (V:=IV c2 d2 e2 f2) (λ_ _ ES _=>?_) ?_;have⟨O,G⟩:=gu ES O G;refine I ?_;refine aa (l5 (vs:=[QV u6 u7]) (lb:=[pT Am.heap.size,pT w.heap.size]) Ch Z Z (va G O (λW q=>hCh W (xt (xt E ES) q))) ?_);rintro _ _ ny rfl;refine I ?_;exact fs ⟨ny.2,rfl⟩;refine aB (λ_ _ _ _=>by refine I ?_;refine aa (xa Z ?_);refine I ?_;exact aK) ?_;refine sf ?_;intro _ _ bY _;have E:=xt E bY.2
 (with_reducible refine ix Z ?_);refine I ?_;refine cl oS (wY qc2 ql (ht.ext E)) ?_;rintro _ _ wr rfl;have E:=xt E wr.2;refine I ?_;exact am (t:=4) (v:=.int .i64 1) Z E Z Z
def Hu {fr:Int}(hfr:¬fr=0)(hDn:∀W,Tb W->CL 100 #[QV cn cd,.int .i64 6] W (aH W λv _=>v=.tuple #[QV l6 l7,.int .i64 0]))(hUp:∀W,Tb W->CL 101 #[QV cn cd,.int .i64 6] W (aH W λv _=>v=.tuple #[QV u6 u7,.int .i64 0]))(ql:Q9 la lb)(qhi:Q9 u6 u7)(hfh:¬0<aQ (u6*1) (100*u7))(qc2:Q9 c2 d2)(hCh:(∀W,aN w W->CL 105 #[QV u6 u7,.int .i64 fr,.int .i64 pl] W (aH W λv _=>v=.tuple #[IV c2 d2 e2 f2,.int .i64 0])))(hA:¬0<=aQ (c2*lb) (la*d2))(qlo:Q9 l6 l7)(hfl:¬0<aQ (l6*1) (100*l7))(qe:Q9 e f)(hCl:(∀W,aN w W->CL 105 #[QV l6 l7,.int .i64 fr,.int .i64 pl] W (aH W λv _=>v=.tuple #[IV c d e f,.int .i64 0])))(hR:aQ (e*lb) (la*f)<0)(ht:Tb w):
 CL 45 #[.agg #[S (qR la lb).1,S (qR la lb).2,.int .i64 pl],.agg #[.slice A n cp,.slice B k D,S (qR cn cd).1,S (qR cn cd).2,.int .i64 fr]] w (aH w λv w'=>v=.int .i64 2):=by
 refine aC func45 Z (I ?_);refine bx (λA2 WV CG=>?_);have O:=WV.2;refine bx (λAo VW E4=>?_);have⟨CG,O⟩:=bw VW.2 CG O;refine I ?_;refine u5 li 14 [5,6,12,13,14,15,16,17,18,19,20,21,22,23] [some (12,.pointer (some ⟨A2.heap.size,2,none⟩)),some (13,QV cn cd),some (14,.tuple #[QV l6 l7,.int .i64 0]),some (15,QV l6 l7),some (16,.int .i64 0),some (17,QV l6 l7),some (18,.pointer (some ⟨A2.heap.size,2,none⟩)),some (19,QV cn cd),some (20,.tuple #[QV u6 u7,.int .i64 0]),some (21,QV u6 u7),some (22,.int .i64 0),some (23,QV u6 u7),none,none] (XK (Eng.XH (λW=>aN Ao W) Ao.heap.size 12 5 33 #[S [],S []]) Ao.heap.size 12 5 13 6 33 #[S [],S []]) (XK.start (XH.start (ac3 Ao))) q0 q0 q0 ?_ ?_;refine⟨λbY _ _ Vm _ B2 _ _ _=>?_,?_⟩;obtain⟨bY,rfl⟩:=aU Vm;refine I ?_;exact sY (jC Z B2.1 B2.1.1 gt) B2 (λb _ h=>h);refine⟨λa4 _ _ L4 b0 As _ _ _=>?_,?_⟩;obtain⟨a4,rfl⟩:=aU L4;have c9:=bh (b0 0 _ _ Z Z);have cb:=(be As.1.1 E4);refine I ?_;exact sY (jC Z As.1 As.1.1 gt) As (λb _ h=>h);refine⟨λS9 _ _ V0 bZ Ar _ _ _=>?_,?_⟩;obtain⟨S9,rfl⟩:=aU V0;have Lj:=bh (bZ 1 _ _ Z Z);have a6:=xt O Ar.1.1;refine cl B7 (hDn _ (ht.ext a6)) ?_ (aw Lj (aw Z Z));rintro _ _ B1 rfl;refine I ?_
 exact sY (jC Z Ar.1 (Ar.1.1.trans B1.2) B1.2) Ar (λb _ h=>be B1.2 h);refine⟨λL2 _ _ a8 ac Aw _ _ _=>?_,?_⟩;obtain⟨L2,rfl⟩:=aU a8;have co:=bh (ac 2 _ _ Z Z);refine I ?_;exact sY (jC Z Aw.1 Aw.1.1 gt) Aw (λb _ h=>h);refine⟨λX0 _ _ S0 bp Ax _ _ _=>?_,?_⟩;obtain⟨X0,rfl⟩:=aU S0;have bv:=bh (bp 2 _ _ Z Z);refine I ?_;exact sY (jC Z Ax.1 Ax.1.1 gt) Ax (λb _ h=>h);refine⟨λa3 _ _ T2 EW E1 _ _ _=>?_,?_⟩;obtain⟨a3,rfl⟩:=aU T2;have W3:=bh (EW 3 _ _ Z Z);have Ne:=bh (EW 4 _ _ Z Z);refine cl qB kY ?_ (aw W3 (aw Ne Z));rintro _ _ Ay rfl;refine I ?_;exact sY (jC Z E1.1 (E1.1.1.trans Ay.2) Ay.2) E1 (λb _ h=>be Ay.2 h);refine⟨λQ0 _ _ Li _ D1 _ _ _=>?_,?_⟩;obtain⟨Q0,rfl⟩:=aU Li;refine I ?_;exact sY (jC Z D1.1 D1.1.1 gt) D1 (λb _ h=>h);refine⟨λN0 _ _ Ix W1 Af _ _ _=>?_,?_⟩;obtain⟨N0,rfl⟩:=aU Ix;have cq:=bh (W1 6 _ _ Z Z);have cc:=(be Af.1.1 E4);refine I ?_;exact sY (jC Z Af.1 Af.1.1 gt) Af (λb _ h=>h);refine⟨λP2 _ _ bb L1 Am _ _ _=>?_,?_⟩;obtain⟨P2,rfl⟩:=aU bb;have KM:=bh (L1 7 _ _ Z Z);have K2:=xt O Am.1.1;refine cl B8 (hUp _ (ht.ext K2)) ?_ (aw KM (aw Z Z));rintro _ _ Cr rfl;refine I ?_
 exact sY (jC Z Am.1 (Am.1.1.trans Cr.2) Cr.2) Am (λb _ h=>be Cr.2 h);refine⟨λa9 _ _ ad No Az _ _ _=>?_,?_⟩;obtain⟨a9,rfl⟩:=aU ad;have ce:=bh (No 8 _ _ Z Z);refine I ?_;exact sY (jC Z Az.1 Az.1.1 gt) Az (λb _ h=>h);refine⟨λP0 _ _ Rm bW B0 _ _ _=>?_,?_⟩;obtain⟨P0,rfl⟩:=aU Rm;have cT:=bh (bW 8 _ _ Z Z);refine I ?_;exact sY (jC Z B0.1 B0.1.1 gt) B0 (λb _ h=>h);refine⟨λKp _ _ a0 E9 nm _ _ _=>?_,?_⟩;obtain⟨Kp,rfl⟩:=aU a0;have X2:=bh (E9 9 _ _ Z Z);have W0:=bh (E9 10 _ _ Z Z);refine cl qB kY ?_ (aw X2 (aw W0 Z));rintro _ _ E6 rfl;refine I ?_;exact sY (jC Z nm.1 (nm.1.1.trans E6.2) E6.2) nm (λb _ h=>be E6.2 h);refine⟨λbd _ _ a5 _ Aq _ _ _=>?_,?_⟩;obtain⟨bd,rfl⟩:=aU a5;have cm:=xt O Aq.1.1;refine al aZ (λ_ Av H4=>I ?_);exact XO Z (XH.new Aq.1 (Aq.1.1.trans Av.2) Av.2 H4) Aq (λb _ h=>be Av.2 h);refine⟨λan _ _ at4 _ Ab _ _ _=>?_,?_⟩;obtain⟨an,rfl⟩:=aU at4;have cr:=xt O Ab.1.1;refine al aZ (λ_ G0 Lk=>I ?_);exact XP Z (XH.keep Ab.1 (Ab.1.1.trans G0.2) G0.2) Ab.1.2.1 Lk (XH.ne Ab.1);exact trivial;intro C0 _ _ E5 KC H2 A1;obtain⟨C0,rfl⟩:=aU KC;have H:=(be A1.1.1 CG);have G:=(be A1.1.1 E4);have E:=xt O A1.1.1
 obtain⟨K3,Ap,_,La⟩:=A1.1.2.2 (E5 12 Z);obtain⟨a2,E0,_,D2,GC⟩:=A1.2 (E5 13 Z);have GC:=LU Ap (GC (E5 12 Z));have E0:=bh E0;have Ap:=bh Ap;have ct:C0 5=pT K3:=(Ap);have ch:=bh (H2 5 _ _ Z Z);refine SA La (λ_ FR A0=>?_);have⟨H,G,D2⟩:=nW FR H G D2;have E:=bA FR E;have cV:C0 6=pT a2:=(E0);have cf:=bh (H2 11 _ _ Z Z);refine SA D2 (λ_ E7 _=>?_);have⟨H,G,A0⟩:=nW E7 H G A0;have E:=bA E7 E;refine I ?_;refine aa (aE (vf:=[]) (vc:=[pT A2.heap.size,pT w.heap.size]) Z (aw Z (aw Z Z)) ?_);refine I ?_;refine bP 11 ?_;refine sf ?_;refine a7 (V:=.bool false) (λ_ _ bq _=>?_) ?_;refine aa (l5 (vs:=[QV u6 u7]) (lb:=[]) Cg Z Z (no (Y:=.bool false) (yJ qhi (ht.ext (xt E bq))) (qb2 Value.bool (qa2 hfh))) ?_);rintro _ _ P1 rfl;refine I ?_;exact fs ⟨P1.2,rfl⟩;refine sf ?_;refine a7 (V:=IV c2 d2 e2 f2) (λ_ _ wr _=>?_) ?_;have⟨H,G⟩:=gu wr H G;refine I ?_;refine aa (l5 (vs:=[QV u6 u7]) (lb:=[pT A2.heap.size,pT w.heap.size]) Ch Z Z (va G H (λW q=>hCh W (xt (xt E wr) q))) ?_);rintro _ _ ny rfl;refine I ?_;exact fs ⟨ny.2,rfl⟩;refine aB (λ_ _ _ _=>by refine I ?_;refine aa (xa Z ?_);refine I ?_;exact aK) ?_;refine sf ?_;intro _ _ L3 _;have⟨H,G,A0,E⟩:=fE L3.2 H G A0 E
 (with_reducible refine ix Z ?_);refine I ?_;refine cl oS (wY qc2 ql (ht.ext E)) ?_;rintro _ _ T3 rfl;have⟨H,G,A0,E⟩:=fE T3.2 H G A0 E;refine I ?_;refine bP 10 ?_;refine sf ?_;refine a7 (V:=.bool false) (λ_ _ Wa _=>?_) ?_;refine aa (l5 (vs:=[QV l6 l7]) (lb:=[]) Cg Z Z (no (Y:=.bool false) (yJ qlo (ht.ext (xt E Wa))) (qb2 Value.bool (qa2 hfl))) ?_);rintro _ _ od rfl;refine I ?_;exact fs ⟨od.2,rfl⟩;refine sf ?_;refine a7 (V:=IV c d e f) (λ_ _ ES _=>?_) ?_;have⟨H,G⟩:=gu ES H G;refine I ?_;refine aa (l5 (vs:=[QV l6 l7]) (lb:=[pT A2.heap.size,pT w.heap.size]) Ch Z Z (va G H (λW q=>hCl W (xt (xt E ES) q))) ?_);rintro _ _ H3 rfl;refine I ?_;exact fs ⟨H3.2,rfl⟩;refine aB (λ_ _ _ _=>by refine I ?_;refine aa (Hs Z ?_);refine I ?_;exact aK) ?_;refine sf ?_;intro _ _ W2 _;have E:=xt E W2.2;(with_reducible refine ix Z ?_);refine I ?_;refine cl oS (wY qe ql (ht.ext E)) ?_;rintro _ _ KY rfl;have E:=xt E KY.2;refine I ?_;exact am (t:=4) (v:=.int .i64 2) Z E Z Z
def Hw {xs:List R}{C0:Rows}{fr:Int}(ql:Q9 la lb)(h12:pl<=12)(hl1:0<=aQ (la*1000000) (1*lb))(hl2:aQ (la*2) (1*lb)<=0)(hb1:ar w b1 33 #[S ((qR la lb).1),S ((qR la lb).2)])(hb2:ar w b2 3 #[.int .i64 pl])(hb3:ar w b3 30 #[.slice A n C,.slice Y ny CY,.slice B nb CB])(hFit:∀W,aN w W->CL 14 #[.agg #[.slice A n C,.slice Y ny CY,.slice B nb CB]] W (aH W λv w'=>∃u,v=.tuple #[u,.int .i64 0]/\mN W.heap.size w' u k xs C0 (qR cn cd) fr))(hJ:∀W A1 cp B1 D,aN w W->CL 45 #[.agg #[S ((qR la lb).1),S ((qR la lb).2),.int .i64 pl],.agg #[.slice A1 xs.length cp,.slice B1 k D,S ((qR cn cd).1),S ((qR cn cd).2),.int .i64 fr]] W (aH W λv _=>v=.int .i64 j))(ht:Tb w):
 CL 43 #[pT b1,pT b2,pT b3] w (aH w λv w'=>v=.int .i64 j):=by
 have FR:=bt hb1;have E7:=bt hb2;have ES:=bt hb3;refine aC func43 Z (I ?_);refine aa (b7 (vs:=[(0,QV la lb),(1,.int .i64 pl)]) (cells:=#[S (qR la lb).1,S (qR la lb).2,.int .i64 pl]) (pl:=[(0,2),(2,1)]) DZ sn q0 Z q0 ?_);refine al sn (λ_ H nm=>?_);have⟨hb1,hb2,hb3⟩:=qh H.2 hb1 hb2 hb3;have E:=H.2;refine aa (bo (b:=w.heap.size) (o:=0) (vs:=[S (qR la lb).1,S (qR la lb).2,.int .i64 pl]) xm Z Z zl nm (qa3 Z) (λ_ O G=>?_));have⟨hb1,hb2,hb3⟩:=nW O hb1 hb2 hb3;have E:=bA O E;refine I ?_;(try refine aa (aM (cs:=[S (qR la lb).1,S (qR la lb).2,.int .i64 pl]) (b:=w.heap.size) (o:=0) DZ Z xm Z (aa1 G (i:=0) Z) ?_));refine cl IF (wZ ql h12 hl1 hl2 (ht.ext E)) ?_;rintro _ _ Aq rfl;have⟨hb3,G,E⟩:=cD Aq.2 hb3 G E;refine I ?_;refine bP 6 ?_;refine aB (λ_ _ Ay _=>by have G:=be Ay G;(try refine aa (aM (cs:=[S (qR la lb).1,S (qR la lb).2,.int .i64 pl]) (b:=w.heap.size) (o:=0) DZ Z xm Z (aa1 G (i:=0) Z) ?_));refine I ?_;exact aK) ?_
 refine aB (λ_ _ Aw _=>by have hb3:=be Aw hb3;(try refine aa (aM (cs:=[.slice A n C,.slice Y ny CY,.slice B nb CB]) (b:=b3) (o:=0) dj Z bm Z (aa1 hb3 (i:=0) Z) ?_));refine I ?_;exact aK) ?_;refine b8 (fun(v:Value) (_:World)=>∃A1 cp B1 D,v=(.tuple #[.agg #[.slice A1 xs.length cp,.slice B1 k D,S (qR cn cd).1,S (qR cn cd).2,.int .i64 fr],.int .i64 0]:Value)) (λ_ _ B0 _=>?_) ?_;refine cl nT (hFit _ (xt E B0)) ?_;rintro _ _ E1 ⟨H4,rfl,EW,G0,K2,E9,GC,rfl,H2,H3,K3,Ix⟩;refine I ?_;exact fs ⟨E1.2,⟨_,_,_,_,rfl⟩⟩;refine b8 (fun(v:Value) (_:World)=>∃A1 cp B1 D,v=(.agg #[.slice A1 xs.length cp,.slice B1 k D,S (qR cn cd).1,S (qR cn cd).2,.int .i64 fr]:Value)) (λE6 _ _ Cr=>?_) ?_;have Ao:∃A1 cp B1 D,E6 12=(.tuple #[.agg #[.slice A1 xs.length cp,.slice B1 k D,S (qR cn cd).1,S (qR cn cd).2,.int .i64 fr],.int .i64 0]:Value):=(Cr 2 12 Z Z);(with_reducible obtain⟨D2,od,A0,B2,Ar⟩:=Ao);refine aa (cX (v:=.agg #[.slice D2 xs.length od,.slice A0 k B2,S (qR cn cd).1,S (qR cn cd).2,.int .i64 fr]) (by exact Ar) Z ?_);refine I ?_;exact fs ⟨aa0 _,⟨_,_,_,_,rfl⟩⟩
 refine aB (λAz _ _ E5=>by have wr:∃A1 cp B1 D,Az 12=(.tuple #[.agg #[.slice A1 xs.length cp,.slice B1 k D,S (qR cn cd).1,S (qR cn cd).2,.int .i64 fr],.int .i64 0]:Value):=(E5 2 12 Z Z);(with_reducible obtain⟨_,_,_,_,As⟩:=wr);refine aa (cX (v:=.int .i64 0) (by exact As) Z ?_);refine I ?_;exact aK) ?_;refine b8 (fun(v:Value) (_:World)=>∃A1 cp B1 D,v=(.agg #[.slice A1 xs.length cp,.slice B1 k D,S (qR cn cd).1,S (qR cn cd).2,.int .i64 fr]:Value)) (λE4 _ _ Av=>?_) ?_;have E0:∃A1 cp B1 D,E4 13=(.agg #[.slice A1 xs.length cp,.slice B1 k D,S (qR cn cd).1,S (qR cn cd).2,.int .i64 fr]:Value):=(Av 3 13 Z Z);(with_reducible obtain⟨_,_,_,_,Ab⟩:=E0);refine cl Sz LW ?_ (aw (by exact Ab) (aw Z Z));rintro _ _ Ap rfl;refine I ?_;exact fs ⟨Ap.2,⟨_,_,_,_,rfl⟩⟩;refine sf ?_;intro A2 _ CG Af;have E:=xt E CG.2;have Am:∃A1 cp B1 D,A2 15=(.agg #[.slice A1 xs.length cp,.slice B1 k D,S (qR cn cd).1,S (qR cn cd).2,.int .i64 fr]:Value):=(Af 5 15 Z Z);(with_reducible obtain⟨_,_,_,_,Ax⟩:=Am);refine cl Sy (hJ _ _ _ _ _ E) ?_ (aw Z (aw (by exact Ax) Z));rintro _ _ D1 rfl;have E:=xt E D1.2;refine I ?_;exact am (t:=3) (v:=.int .i64 j) Z E Z Z
def Bg {xs:List R}{C0:Rows}{fr:Int}(ql:Q9 la lb)(h12:pl<=12)(hl1:0<=aQ (la*1000000) (1*lb))(hl2:aQ (la*2) (1*lb)<=0)(hFit:∀W,aN w W->CL 14 #[.agg #[.slice A n C,.slice Y ny CY,.slice B nb CB]] W (aH W λv w'=>∃u,v=.tuple #[u,.int .i64 0]/\mN W.heap.size w' u k xs C0 (qR cn cd) fr))(hJ:∀W A1 cp B1 D,aN w W->CL 45 #[.agg #[S ((qR la lb).1),S ((qR la lb).2),.int .i64 pl],.agg #[.slice A1 xs.length cp,.slice B1 k D,S ((qR cn cd).1),S ((qR cn cd).2),.int .i64 fr]] W (aH W λv _=>v=.int .i64 j))(ht:Tb w):
 CL 19 #[.agg #[.slice A n C,.slice Y ny CY,.slice B nb CB],QV la lb,.int .i64 pl] w (aH w λv w'=>v=.tuple #[.int .i64 j,.int .i64 0]):=by
 refine aC func19 Z (I ?_);refine bx (λA2 Ao G=>?_);have E:=Ao.2;refine bx (λA0 Ap O=>?_);have⟨G,E⟩:=bw Ap.2 G E;refine bx (λ_ Af Am=>?_);have⟨G,O,E⟩:=cD Af.2 G O E;refine I ?_;refine aa (aE (vf:=[]) (vc:=[pT A2.heap.size,pT A0.heap.size,pT w.heap.size]) Z Z ?_);refine cl Sw (Lu (gf:=43) (lb:=[pT A2.heap.size,pT A0.heap.size,pT w.heap.size]) Sx (λW q=>Hw ql h12 hl1 hl2 (be q O) (be q Am) (be q G) (λW2 H=>hFit W2 (xt E (xt q H))) (λW2 A1 cp B1 D H=>hJ W2 A1 cp B1 D (xt E (xt q H))) (ht.ext (xt E q)))) ?_;rintro _ _ Ab rfl;have E:=xt E Ab.2;refine I ?_;exact bF (t:=6) (u:=7) (v1:=.int .i64 j) (v2:=.int .i64 0) Z E Z Z Z
structure qd (L V:Rows)(ys:List R)(rl:List Nat)(KM KC:Rows)(KY:List R):Prop where
 lt:∀j,j<rl.length->rl.getD j 0<ys.length
 asc:∀j,j+1<rl.length->rl.getD j 0<rl.getD (j+1) 0
 le:rl.length<=8
 km:∀i,i<rl.length->KM i=L (rl.getD i 0)
 cl:∀i,i<rl.length->(KC i).length=rl.length
 ce:∀i,i<rl.length->∀k,k<rl.length->ap (KC i) k=ap (V (rl.getD i 0)) (rl.getD k 0)
 yl:KY.length=rl.length
 ye:∀i,i<rl.length->ap KY i=ap ys (rl.getD i 0)
structure ia (lo:Nat)(w:World)(A:Option Addr)(C:Nat)(Y:Option Addr)(CY:Nat)(B:Option Addr)(CB:Nat)(L V:Rows)(ys:List R):Prop where
 m:∃H,Mt w lo A ys.length H L
 y:Rw w lo Y (ag ys)
 v:∃G,Mt w lo B ys.length G V
 c:ys.length<=CB
section
variable {lo':Nat}{w':World}{L V:Rows}{ys:List R}
def ia.ext (k:aN w w')(h:ia lo w A C Y CY B CB L V ys):ia lo w' A C Y CY B CB L V ys:=by
 obtain⟨⟨b,c⟩,e,⟨g,i⟩,j⟩:=h
 exact⟨⟨b,c.ext k⟩,e.ext k,⟨g,i.ext k⟩,j⟩
def ia.put {x:Nat}(k:dP w w' x)(hx:x<lo)(h:ia lo w A C Y CY B CB L V ys):ia lo w' A C Y CY B CB L V ys:=by
 obtain⟨⟨b,c⟩,e,⟨g,i⟩,j⟩:=h
 exact⟨⟨b,Mt.put k hx c⟩,Rw.put k hx e,⟨g,Mt.put k hx i⟩,j⟩
def ia.mono (hl:lo'<=lo)(h:ia lo w A C Y CY B CB L V ys):ia lo' w A C Y CY B CB L V ys:=by
 obtain⟨⟨b,c⟩,e,⟨g,i⟩,j⟩:=h
 exact⟨⟨b,c.mono hl⟩,e.mono hl,⟨g,i.mono hl⟩,j⟩
def ia.des (h:ia lo w A C Y CY B CB L V ys):eZ w A C Y CY B CB L V ys:=by
 obtain⟨⟨b,c⟩,e,⟨g,i⟩,j⟩:=h
 exact⟨⟨_,b,c⟩,⟨_,e⟩,⟨_,g,i⟩,j⟩
end
set_option maxHeartbeats 4000000 in
set_option maxRecDepth 100000 in
def LX {L V:Rows}{ys:List R}(hD:eZ w A C Y CY B CB L V ys)(ok:qi L V ys){KM KC:Rows}{KY:List R}(hR:Rw w lo5 kd (ints rl))(pe:qd L V ys rl KM KC KY)(okq:qi KM KC KY)(ht:Tb w):
 CL 53 #[.agg #[.slice A ys.length C,.slice Y ys.length CY,.slice B ys.length CB],.slice kd rl.length CR] w (aH w λv w'=>∃A C Y CY B CB,v=.agg #[.slice A KY.length C,.slice Y KY.length CY,.slice B KY.length CB]/\ia w.heap.size w' A C Y CY B CB KM KC KY):=by
 obtain⟨_,H,hM⟩:=hD.m;obtain⟨_,hy⟩:=hD.y;obtain⟨_,G,hV⟩:=hD.v;have hrl8:=pe.le;have hL8:=(jc ok.hv).2.2.2.1;have Yk:=VM.ok (jc ok.hv);have okV:=VM.ok (jc ok.hv3);have hVl:=ok.hVl;have hkl:=pe.yl;refine aC func53 Z (I ?_);refine bx (λcy aub cw=>?_);have ar6:=aub.2;refine al dX (λcv asr fx=>?_);have⟨cw,ar6⟩:=bw asr.2 cw ar6;refine I ?_;have auc:World.ownsRow cv cv.heap.size 28 1 (.slice none 0 0) 0 []:=bO;have aud:Wr cv cv.heap.size cv.heap.size 0 (λ_=>.nilIface) KM:=Wr.nil;have aue:World.ownsRow cv cv.heap.size 28 1 (.slice none 0 0) 0 []:=bO;have auf:Wr cv cv.heap.size cv.heap.size 0 (λ_=>.nilIface) KC:=Wr.nil;have aug:World.ownsRow cv cv.heap.size 33 2 (.slice none 0 0) 0 (ag []):=bO
 refine ck [(5,7),(9,9),(12,97)] (λkk e W=>∃i9x:Nat,∃H2:Nat->Value,∃vm:Value,∃H3:Nat->Value,∃vc:Value,∃acY:List R,∃vy:Value,(rl.length-i9x=kk)/\(e 12=.int .i64 i9x)/\(i9x<=rl.length)/\(∀zz,zz<i9x->ay vm (H2 zz))/\(∀zz,zz<i9x->ay vm (H3 zz))/\(∀zz,zz<i9x->ay vc (H2 zz))/\(∀zz,zz<i9x->ay vc (H3 zz))/\(∀zz,zz<i9x->ay vy (H2 zz))/\(∀zz,zz<i9x->ay vy (H3 zz))/\(acY.length=i9x)/\(∀j,j<i9x->ap acY j=ap ys (rl.getD j 0))/\(cv.heap.size<=W.heap.size)/\((vm).ownBlock≠some w.heap.size)/\((vm).ownBlock≠some cy.heap.size)/\((vc).ownBlock≠some w.heap.size)/\((vc).ownBlock≠some cy.heap.size)/\((vy).ownBlock≠some w.heap.size)/\((vy).ownBlock≠some cy.heap.size)/\(ay vm vc)/\(ay vm vy)/\(ay vc vy)/\(aN w W)/\(ar W w.heap.size 82 #[.slice A ys.length C,.slice Y ys.length CY,.slice B ys.length CB])/\(W.ownsRow cv.heap.size 28 1 vm i9x ((List.range i9x).map H2))/\(Wr W cv.heap.size W.heap.size i9x H2 KM)/\(W.ownsRow cv.heap.size 28 1 vc i9x ((List.range i9x).map H3))/\(Wr W cv.heap.size W.heap.size i9x H3 KC)/\(W.ownsRow cv.heap.size 33 2 vy acY.length (ag acY))/\(ar W cy.heap.size 30 #[vm,vy,vc])) (rl.length-0) ⟨0,(λ_=>.nilIface),.slice none 0 0,(λ_=>.nilIface),.slice none 0 0,[],.slice none 0 0,rfl,rfl,(qa7 _),(λj hj=>by omega),(λj hj=>by omega),(λj hj=>by omega),(λj hj=>by omega),(λj hj=>by omega),(λj hj=>by omega),rfl,(λj hj=>by omega),(qa0 _),(λe=>by cases e),(λe=>by cases e),(λe=>by cases e),(λe=>by cases e),(λe=>by cases e),(λe=>by cases e),(aa4 ad2),(aa4 ad2),(aa4 ad2),ar6,cw,auc,aud,aue,auf,aug,fx⟩ ?_
 rintro _ _ wr ⟨i9x,H2,vm,H3,vc,acY,vy,rfl,aqj,hi9x,hap11,hap13,hap31,hap33,hapy1,hapy3,halY,hacY,a0t,ass,ast,auh,aui,asu,asv,asw,asx,asy,lq,cw,hout,hwr,hout3,hwr3,hyrow,fx⟩;by_cases hlo:i9x<rl.length;have hri:=pe.lt i9x hlo;have hLr:=(Yk (rl.getD i9x 0) hri).1;have hVr:=(okV (rl.getD i9x 0) hri).1;have hasc:¬i9x=0->rl.getD (i9x-1) 0<(rl.getD i9x 0):=λh=>by have:=pe.asc (i9x-1) U;rwa [show i9x-1+1=i9x by omega]at this
 have zq1q:=pQ (hR.ext lq) (i:=(i9x)) U;refine I ?_;refine eI zq1q ?_;refine gx ?_;refine iR ?_;refine Ts [(17,39)] (λe W=>(aN w W)/\(wr.heap.size<=W.heap.size)/\(ar W w.heap.size 82 #[.slice A ys.length C,.slice Y ys.length CY,.slice B ys.length CB])/\(W.ownsRow cv.heap.size 28 1 vm i9x ((List.range i9x).map H2))/\(Wr W cv.heap.size wr.heap.size i9x H2 KM)/\(W.ownsRow cv.heap.size 28 1 vc i9x ((List.range i9x).map H3))/\(Wr W cv.heap.size wr.heap.size i9x H3 KC)/\(W.ownsRow cv.heap.size 33 2 vy acY.length (ag acY))/\(ar W cy.heap.size 30 #[vm,vy,vc])) ?_ ?_;by_cases od:(i9x:Int)=0;refine I ?_;(try refine aa (aM (cs:=[.slice A ys.length C,.slice Y ys.length CY,.slice B ys.length CB]) (b:=w.heap.size) (o:=0) nz Z nM Z (aa1 cw (i:=0) Z) ?_));refine I ?_;refine cl xA pX ?_;rintro _ _ apr rfl;have cw:=be apr.2 cw;have hout:=ab apr.2 hout;have hwr:=aa2 apr.2 hwr;have hout3:=ab apr.2 hout3;have hwr3:=aa2 apr.2 hwr3;have hyrow:=ab apr.2 hyrow;have⟨fx,lq⟩:=bw apr.2 fx lq;refine I ?_;refine cl fK dn ?_;rintro _ _ aps rfl;have cw:=be aps.2 cw;have hout:=ab aps.2 hout;have hwr:=aa2 aps.2 hwr;have hout3:=ab aps.2 hout3;have hwr3:=aa2 aps.2 hwr3;have hyrow:=ab aps.2 hyrow;have⟨fx,lq⟩:=bw aps.2 fx lq;refine I ?_
 exact CN ⟨lq,U,cw,hout,hwr,hout3,hwr3,hyrow,fx⟩;refine I ?_;(try refine aa (aM (cs:=[.slice A ys.length C,.slice Y ys.length CY,.slice B ys.length CB]) (b:=w.heap.size) (o:=0) nz Z nM Z (aa1 cw (i:=0) Z) ?_));refine I ?_;refine cl xA pX ?_;rintro _ _ apt rfl;have cw:=be apt.2 cw;have hout:=ab apt.2 hout;have hwr:=aa2 apt.2 hwr;have hout3:=ab apt.2 hout3;have hwr3:=aa2 apt.2 hwr3;have hyrow:=ab apt.2 hyrow;have⟨fx,lq⟩:=bw apt.2 fx lq;refine I ?_;refine qF (I ?_);refine aa (H1 (a:=(i9x:Int)-1) (b:=0) (m:=((i9x-1:Nat):Int)) Z Z kd2 ?_);have zq2q:=pQ (hR.ext lq) (i:=(i9x-1)) U;refine I ?_;refine eI zq2q (I ?_);refine cl fK dn ?_ (aw (congrArg Value.bool (decide_eq_true U)) Z);rintro _ _ apu rfl;have cw:=be apu.2 cw;have hout:=ab apu.2 hout;have hwr:=aa2 apu.2 hwr;have hout3:=ab apu.2 hout3;have hwr3:=aa2 apu.2 hwr3;have hyrow:=ab apu.2 hyrow;have⟨fx,lq⟩:=bw apu.2 fx lq;refine I ?_;exact CN ⟨lq,U,cw,hout,hwr,hout3,hwr3,hyrow,fx⟩;rintro _ aqe ⟨asz,a04,cw,hout,hwr,hout3,hwr3,hyrow,fx⟩;have a05:=bz asz;refine I ?_;have auj:World.ownsRow aqe aqe.heap.size 33 2 (.slice none 0 0) 0 (ag []):=bO
 refine ck [(7,7),(9,9),(42,67)] (λkk e W=>∃k:Nat,∃ac:List R,∃vrow:Value,(rl.length-k=kk)/\(e 42=.int .i64 k)/\(e 7=vrow)/\(k<=rl.length)/\(ac.length=k)/\(∀j,j<k->ap ac j=ap (V (rl.getD i9x 0)) (rl.getD j 0))/\(aqe.heap.size<=W.heap.size)/\((vrow).ownBlock≠some w.heap.size)/\((vrow).ownBlock≠some cy.heap.size)/\(ay vm vrow)/\(ay vc vrow)/\(ay vy vrow)/\(aN w W)/\(ar W w.heap.size 82 #[.slice A ys.length C,.slice Y ys.length CY,.slice B ys.length CB])/\(W.ownsRow cv.heap.size 28 1 vm i9x ((List.range i9x).map H2))/\(Wr W cv.heap.size wr.heap.size i9x H2 KM)/\(W.ownsRow cv.heap.size 28 1 vc i9x ((List.range i9x).map H3))/\(Wr W cv.heap.size wr.heap.size i9x H3 KC)/\(W.ownsRow cv.heap.size 33 2 vy acY.length (ag acY))/\(ar W cy.heap.size 30 #[vm,vy,vc])/\(W.ownsRow aqe.heap.size 33 2 vrow ac.length (ag ac))) (rl.length-0) ⟨0,[],.slice none 0 0,rfl,rfl,rfl,(qa7 _),rfl,(λj hj=>by omega),(qa0 _),(λe=>by cases e),(λe=>by cases e),(aa4 ad2),(aa4 ad2),(aa4 ad2),asz,cw,hout,hwr,hout3,hwr3,hyrow,fx,auj⟩ ?_;rintro _ _ aqk ⟨k,ac,vrow,rfl,aq0,as0,hi_k,hal_ac,hacf,a08,as1,aql,aq1,ar7,aq2,cf,cw,hout,hwr,hout3,hwr3,hyrow,fx,hrow⟩;by_cases hlk:k<rl.length;have hrk:=pe.lt k hlk;have zq3q:=pQ (hR.ext cf) (i:=(k)) U;refine I ?_
 refine eI zq3q (I ?_);(try refine aa (aM (cs:=[.slice A ys.length C,.slice Y ys.length CY,.slice B ys.length CB]) (b:=w.heap.size) (o:=0) nz Z nM Z (aa1 cw (i:=0) Z) ?_));refine I ?_;refine cl xA pX ?_;rintro _ _ apl rfl;have cw:=be apl.2 cw;have hout:=ab apl.2 hout;have hwr:=aa2 apl.2 hwr;have hout3:=ab apl.2 hout3;have hwr3:=aa2 apl.2 hwr3;have hyrow:=ab apl.2 hyrow;have fx:=be apl.2 fx;have hrow:=ab apl.2 hrow;have cf:=xt cf apl.2;refine I ?_;refine cl fK dn ?_ (aw (qb2 Value.bool (qa1 U)) Z);rintro _ _ apm rfl;have cw:=be apm.2 cw;have hout:=ab apm.2 hout;have hwr:=aa2 apm.2 hwr;have hout3:=ab apm.2 hout3;have hwr3:=aa2 apm.2 hwr3;have hyrow:=ab apm.2 hyrow;have fx:=be apm.2 fx;have hrow:=ab apm.2 hrow;have cf:=xt cf apm.2;refine I ?_;refine aa (aY (v:=vrow) as0 ?_);have zq4q:=aa6 (hV.ext cf) (i:=((rl).getD i9x 0)) U;refine I ?_;refine eI zq4q ?_;have zq5q:=ac5 (hV.ext cf) (i:=((rl).getD i9x 0)) (k:=((rl).getD k 0)) U U;refine I ?_;refine jv zq5q (I ?_);refine BS (λ_ ao8 _ auk=>?_);have cw:=be ao8 cw;have hout:=ab ao8 hout;have hwr:=aa2 ao8 hwr;have hout3:=ab ao8 hout3;have hwr3:=aa2 ao8 hwr3;have hyrow:=ab ao8 hyrow;have fx:=be ao8 fx;have hrow:=ab ao8 hrow
 have cf:=xt cf ao8;refine AP hrow (ab0 auk) (λas2 _ aul apn aqm=>?_);have aum:=aS aqm as1 (bt cw);have aun:=aS aqm aql (bt fx);have cw:=aa3 apn (λe=>as1 e.symm) cw;have auo:=ab1 aqm (aa4 aq1) hout;have hout:=ab5 (aa4 aq1) apn hout;have hwr:=Wr.gr apn (λg e=>Or.inr (qa8 U (aR hrow g e))) hwr;have aup:=ab1 aqm (aa4 ar7) hout3;have hout3:=ab5 (aa4 ar7) apn hout3;have hwr3:=Wr.gr apn (λg e=>Or.inr (qa8 U (aR hrow g e))) hwr3;have auq:=ab1 aqm (aa4 aq2) hyrow;have hyrow:=ab5 (aa4 aq2) apn hyrow;have fx:=aa3 apn (λe=>aql e.symm) fx;have cf:=bB hrow U U cf apn;have a1m:=apn.size;refine aa (aJ (v:=as2) Z ?_);refine I ?_;refine gR (I ?_);exact bJ ⟨k+1,ac++[(ap (V (rl.getD i9x 0)) (rl.getD k 0))],as2,rfl,rfl,rfl,U,q4,(sU (f:=λj=>ap (V (rl.getD i9x 0)) (rl.getD j 0)) hal_ac hacf),U,aum,aun,(aa4 auo),(aa4 aup),(aa4 auq),cf,cw,hout,hwr,hout3,hwr3,hyrow,fx,(aP aul zd (du _ (ap (V (rl.getD i9x 0)) (rl.getD k 0))))⟩;refine I ?_;have ar8:=dG hout;have aur:=dG hout3;have as3:=dG hyrow;have aus:=dG hrow;have ao9:=ac3 aqk
 refine xK 27 (λls e W=>∃cm:Value,∃mq:Nat,∃cr:Value,∃ly:Nat,∃cx:Value,∃lr:Nat,∃lp:Value,(aN w W)/\(aqk.heap.size<=W.heap.size)/\(ls 8=true->e 76=cm)/\(ls 9=true->e 77=.slice (some ⟨mq,0,none⟩) 1 1)/\(ls 10=true->e 78=cr)/\(ls 19=true->e 87=.slice (some ⟨ly,0,none⟩) 1 1)/\(ls 20=true->e 88=cx)/\(ls 24=true->e 92=.slice (some ⟨lr,0,none⟩) 1 1)/\(ls 25=true->e 93=lp)/\(ls 9=true->aqk.heap.size<=mq/\mq<W.heap.size)/\(ls 19=true->aqk.heap.size<=ly/\ly<W.heap.size)/\(ls 24=true->aqk.heap.size<=lr/\lr<W.heap.size)/\(ls 9=true->ls 19=true->mq≠ly)/\(ls 9=true->ls 24=true->mq≠lr)/\(ls 19=true->ls 24=true->ly≠lr)/\(ar W w.heap.size 82 #[.slice A ys.length C,.slice Y ys.length CY,.slice B ys.length CB])/\(ls 10=false->(W.ownsRow cv.heap.size 28 1 vm i9x ((List.range i9x).map H2)))/\(ls 10=true->ls 20=false->(W.ownsRow cv.heap.size 28 1 cr (i9x+1) (((List.range i9x).map H2)++[cm])/\((cr).ownBlock≠some w.heap.size)/\((cr).ownBlock≠some cy.heap.size)/\(ay cr vc)/\(ay cr vy)/\(ay cr vrow)/\(ay cr cm)/\(∀jx,jx<i9x->ay cr (H2 jx))/\(∀jx,jx<i9x->ay cr (H3 jx))))/\(ls 20=true->ls 25=false->(W.ownsRow cv.heap.size 28 1 cr (i9x+1) (((List.range i9x).map H2)++[cm])/\((cr).ownBlock≠some w.heap.size)/\((cr).ownBlock≠some cy.heap.size)/\(ay cr vc)/\(ay cr vrow)/\(ay cr cm)/\(∀jx,jx<i9x->ay cr (H2 jx))/\(∀jx,jx<i9x->ay cr (H3 jx))))/\(ls 25=true->(W.ownsRow cv.heap.size 28 1 cr (i9x+1) (((List.range i9x).map H2)++[cm])/\((cr).ownBlock≠some w.heap.size)/\((cr).ownBlock≠some cy.heap.size)/\(ay cr vrow)/\(ay cr cm)/\(∀jx,jx<i9x->ay cr (H2 jx))/\(∀jx,jx<i9x->ay cr (H3 jx))))/\(Wr W cv.heap.size wr.heap.size i9x H2 KM)/\(ls 20=false->(W.ownsRow cv.heap.size 28 1 vc i9x ((List.range i9x).map H3)))/\(ls 20=true->ls 25=false->(W.ownsRow cv.heap.size 28 1 vc i9x ((List.range i9x).map H3)/\((vc).ownBlock≠some w.heap.size)/\((vc).ownBlock≠some cy.heap.size)/\(ay vc vrow)/\(∀jx,jx<i9x->ay vc (H2 jx))/\(∀jx,jx<i9x->ay vc (H3 jx))))/\(ls 25=true->(W.ownsRow cv.heap.size 28 1 lp (i9x+1) (((List.range i9x).map H3)++[vrow])/\((lp).ownBlock≠some w.heap.size)/\((lp).ownBlock≠some cy.heap.size)/\(ay lp cr)/\(ay lp cx)/\(ay lp vrow)/\(ay lp cm)/\(∀jx,jx<i9x->ay lp (H2 jx))/\(∀jx,jx<i9x->ay lp (H3 jx))))/\(Wr W cv.heap.size wr.heap.size i9x H3 KC)/\(ls 20=false->(W.ownsRow cv.heap.size 33 2 vy acY.length (ag acY)))/\(ls 20=true->ls 25=false->(W.ownsRow cv.heap.size 33 2 cx (acY.length+1) ((ag acY)++[S ((ap ys ((rl).getD i9x 0)).1),S ((ap ys ((rl).getD i9x 0)).2)])/\((cx).ownBlock≠some w.heap.size)/\((cx).ownBlock≠some cy.heap.size)/\(ay cx cr)/\(ay cx vc)/\(ay cx vrow)/\(ay cx cm)/\(∀jx,jx<i9x->ay cx (H2 jx))/\(∀jx,jx<i9x->ay cx (H3 jx))))/\(ls 25=true->(W.ownsRow cv.heap.size 33 2 cx (acY.length+1) ((ag acY)++[S ((ap ys ((rl).getD i9x 0)).1),S ((ap ys ((rl).getD i9x 0)).2)])/\((cx).ownBlock≠some w.heap.size)/\((cx).ownBlock≠some cy.heap.size)/\(ay cx cr)/\(ay cx vrow)/\(ay cx cm)/\(∀jx,jx<i9x->ay cx (H2 jx))/\(∀jx,jx<i9x->ay cx (H3 jx))))/\(ar W cy.heap.size 30 #[vm,vy,vc])/\(W.ownsRow aqe.heap.size 33 2 vrow ac.length (ag ac))/\(ls 8=true->ls 10=false->(W.ownsRow wr.heap.size 33 2 cm ((L ((rl).getD i9x 0)).length) (ag (L ((rl).getD i9x 0)))/\(ay cm vm)/\(ay cm vc)/\(ay cm vy)/\(ay cm vrow)))/\(ls 10=true->ls 20=false->(W.ownsRow wr.heap.size 33 2 cm ((L ((rl).getD i9x 0)).length) (ag (L ((rl).getD i9x 0)))/\(ay cm vc)/\(ay cm vy)/\(ay cm vrow)))/\(ls 20=true->ls 25=false->(W.ownsRow wr.heap.size 33 2 cm ((L ((rl).getD i9x 0)).length) (ag (L ((rl).getD i9x 0)))/\(ay cm vc)/\(ay cm vrow)))/\(ls 25=true->(W.ownsRow wr.heap.size 33 2 cm ((L ((rl).getD i9x 0)).length) (ag (L ((rl).getD i9x 0)))/\(ay cm vrow)))/\(ls 9=true->ls 10=false->(World.ownsRow W mq 28 1 (.slice (some ⟨mq,0,none⟩) 1 1) 1 [cm]))/\(ls 19=true->ls 20=false->(World.ownsRow W ly 33 2 (.slice (some ⟨ly,0,none⟩) 1 1) 1 [S ((ap ys ((rl).getD i9x 0)).1),S ((ap ys ((rl).getD i9x 0)).2)]))/\(ls 24=true->ls 25=false->(World.ownsRow W lr 28 1 (.slice (some ⟨lr,0,none⟩) 1 1) 1 [vrow]))) ⟨.nilIface,0,.nilIface,0,.nilIface,0,.nilIface,(xt cf ao9),(bz ao9),(ff Z),(ff Z),(ff Z),(ff Z),(ff Z),(ff Z),(ff Z),(ff Z),(ff Z),(ff Z),(ff Z),(ff Z),(ff Z),(be ao9 cw),(λ_=>(ab ao9 hout)),(λh _=>ff Z h),(λh _=>ff Z h),(λh=>ff Z h),(aa2 ao9 hwr),(λ_=>(ab ao9 hout3)),(λh _=>ff Z h),(λh=>ff Z h),(aa2 ao9 hwr3),(λ_=>(ab ao9 hyrow)),(λh _=>ff Z h),(λh=>ff Z h),(be ao9 fx),(ab ao9 hrow),(λh _=>ff Z h),(λh _=>ff Z h),(λh _=>ff Z h),(λh=>ff Z h),(λh _=>ff Z h),(λh _=>ff Z h),(λh _=>ff Z h)⟩ ?_
 refine sf ?_;refine dk (λa1u a1v a1w _ aut a1x _=>by obtain⟨_,_,_,_,_,_,_,_,_,_,_,_,_,_,_,_,_,_,_,_,_,_,_,_,_,_,_,_,_,_,_,_,_,_,_,nm,_⟩:=aut;refine I ?_;exact aK) ?_;refine sf ?_;refine dk (λa19 a2a a2b _ auu a2c _=>by obtain⟨_,_,_,_,_,_,_,_,_,_,_,_,_,_,_,_,_,_,_,_,_,_,np,_⟩:=auu;refine I ?_;exact aK) ?_;refine sf ?_;refine dk (λa2i a2j a2k _ auv a2l _=>by obtain⟨_,_,_,_,_,_,_,cf,_⟩:=auv;have zq6q:=aa6 (hM.ext cf) (i:=((rl).getD i9x 0)) U;refine I ?_;refine eI zq6q ?_;refine I ?_;exact aK) ?_;refine dk (λa2m a2n a2o _ auw a2p _=>by obtain⟨_,_,_,_,_,_,_,cf,_⟩:=auw;have zq7q:=aa6 (hM.ext cf) (i:=((rl).getD i9x 0)) U;refine I ?_;exact aK) ?_;refine gE (λ_ _ _ aux fy wz _=>?_) ?_;obtain⟨cm,mq,cr,ly,cx,lr,lp,cf,zst,w5,w7,w8,w9,aol,aom,aon,nq,ns,nv,aox,aoy,aoz,np,ao0,ao1,apa,apv,p6,aor,apb,apw,r8,aos,apc,apx,nm,sc,aot,ao2,apd,apy,ape,ao3,aou⟩:=aux;have aq3:=np;have ar9:=ao0 (aT fy (i:=8) (j:=10) Z wz);have asa:=p6;have asb:=aor (aT fy (i:=10) (j:=20) Z (aT fy (i:=8) (j:=10) Z wz));have asd:=r8;have ase:=aos (aT fy (i:=10) (j:=20) Z (aT fy (i:=8) (j:=10) Z wz));have aq4:=nm;have asf:=sc;refine clb R1 (hc:=uH (Mt.row (hM.ext cf) ((rl).getD i9x 0) U) U) (hk:=?_);rintro aqn _ ao4 aqc;have ao4:=ao4.2
 have auy:ay aqn (vm):=λg h1 h2=>by have h3:=aR aqc _ h1;have h4:=ar8 _ h2;omega
 have auz:ay aqn (vc):=λg h1 h2=>by have h3:=aR aqc _ h1;have h4:=aur _ h2;omega
 have au0:ay aqn (vy):=λg h1 h2=>by have h3:=aR aqc _ h1;have h4:=as3 _ h2;omega
 have au1:ay aqn (vrow):=λg h1 h2=>by have h3:=aR aqc _ h1;have h4:=aus _ h2;omega
 have aqc:=b9 (lo':=wr.heap.size) U aqc;have aq3:=be ao4 aq3;have ar9:=ab ao4 ar9;have asa:=aa2 ao4 asa;have asb:=ab ao4 asb;have asd:=aa2 ao4 asd;have ase:=ab ao4 ase;have aq4:=be ao4 aq4;have asf:=ab ao4 asf;have cf:=xt cf ao4;refine I ?_
 exact fs ⟨aqn,mq,cr,ly,cx,lr,lp,cf,U,(λ_=>rfl),w7,w8,w9,aol,aom,aon,(λx=>by have:=nq x;omega),(λx=>by have:=ns x;omega),(λx=>by have:=nv x;omega),aox,aoy,aoz,aq3,(λ_=>ar9),(λau2 _=>ff (aT fy (i:=8) (j:=10) Z wz) au2),(λau3 _=>ff (aT fy (i:=10) (j:=20) Z (aT fy (i:=8) (j:=10) Z wz)) au3),(λau4=>ff (aT fy (i:=20) (j:=25) Z (aT fy (i:=10) (j:=20) Z (aT fy (i:=8) (j:=10) Z wz))) au4),asa,(λ_=>asb),(λau5 _=>ff (aT fy (i:=10) (j:=20) Z (aT fy (i:=8) (j:=10) Z wz)) au5),(λau6=>ff (aT fy (i:=20) (j:=25) Z (aT fy (i:=10) (j:=20) Z (aT fy (i:=8) (j:=10) Z wz))) au6),asd,(λ_=>ase),(λau7 _=>ff (aT fy (i:=10) (j:=20) Z (aT fy (i:=8) (j:=10) Z wz)) au7),(λau8=>ff (aT fy (i:=20) (j:=25) Z (aT fy (i:=10) (j:=20) Z (aT fy (i:=8) (j:=10) Z wz))) au8),aq4,asf,(λ_ _=>⟨aqc,auy,auz,au0,au1⟩),(λau9 _=>ff (aT fy (i:=8) (j:=10) Z wz) au9),(λava _=>ff (aT fy (i:=10) (j:=20) Z (aT fy (i:=8) (j:=10) Z wz)) ava),(λavb=>ff (aT fy (i:=20) (j:=25) Z (aT fy (i:=10) (j:=20) Z (aT fy (i:=8) (j:=10) Z wz))) avb),(λavc _=>ff (aT fy (i:=8) (j:=9) Z wz) avc),(λavd ave=>(ab ao4 (ao3 avd ave))),(λavf avg=>(ab ao4 (aou avf avg)))⟩
 refine gE (λ_ avh _ avi lm aoo as4=>?_) ?_;obtain⟨cm,mq,cr,ly,cx,lr,lp,cf,zst,w5,w7,w8,w9,aol,aom,aon,nq,ns,nv,aox,aoy,aoz,np,ao0,ao1,apa,apv,p6,aor,apb,apw,r8,aos,apc,apx,nm,sc,aot,ao2,apd,apy,ape,ao3,aou⟩:=avi;have avj:=w5 (as4 8 Z);have aq5:=np;have aq6:=ao0 (aT lm (i:=9) (j:=10) Z aoo);have asg:=p6;have aq7:=aor (aT lm (i:=10) (j:=20) Z (aT lm (i:=9) (j:=10) Z aoo));have ash:=r8;have aq8:=aos (aT lm (i:=10) (j:=20) Z (aT lm (i:=9) (j:=10) Z aoo));have aq9:=nm;have ara:=sc;obtain⟨aqo,avk,avl,avm,avn⟩:=aot (as4 8 Z) (aT lm (i:=9) (j:=10) Z aoo);refine aa (cM (vs:=[(0,cm)]) (cells:=#[cm]) Ic jK (db avj Z) dc dc (jW _ (bV aqo)) Z dc (λ_ aov _ avo=>?_));have aq5:=be aov aq5;have aq6:=ab aov aq6;have asg:=aa2 aov asg;have aq7:=ab aov aq7;have ash:=aa2 aov ash;have aq8:=ab aov aq8;have aq9:=be aov aq9;have ara:=ab aov ara;have aqo:=ab aov aqo;have cf:=xt cf aov;refine I ?_
 exact fs ⟨cm,avh.heap.size,cr,ly,cx,lr,lp,cf,U,w5,(λ_=>rfl),w8,w9,aol,aom,aon,(λ_=>⟨by omega,by omega⟩),(λx=>by have:=ns x;omega),(λx=>by have:=nv x;omega),(λ_ x=>by have:=ns x;omega),(λ_ x=>by have:=nv x;omega),aoz,aq5,(λ_=>aq6),(λavp _=>ff (aT lm (i:=9) (j:=10) Z aoo) avp),(λavq _=>ff (aT lm (i:=10) (j:=20) Z (aT lm (i:=9) (j:=10) Z aoo)) avq),(λavr=>ff (aT lm (i:=20) (j:=25) Z (aT lm (i:=10) (j:=20) Z (aT lm (i:=9) (j:=10) Z aoo))) avr),asg,(λ_=>aq7),(λavs _=>ff (aT lm (i:=10) (j:=20) Z (aT lm (i:=9) (j:=10) Z aoo)) avs),(λavt=>ff (aT lm (i:=20) (j:=25) Z (aT lm (i:=10) (j:=20) Z (aT lm (i:=9) (j:=10) Z aoo))) avt),ash,(λ_=>aq8),(λavu _=>ff (aT lm (i:=10) (j:=20) Z (aT lm (i:=9) (j:=10) Z aoo)) avu),(λavv=>ff (aT lm (i:=20) (j:=25) Z (aT lm (i:=10) (j:=20) Z (aT lm (i:=9) (j:=10) Z aoo))) avv),aq9,ara,(λ_ _=>⟨aqo,avk,avl,avm,avn⟩),(λavw _=>ff (aT lm (i:=9) (j:=10) Z aoo) avw),(λavx _=>ff (aT lm (i:=10) (j:=20) Z (aT lm (i:=9) (j:=10) Z aoo)) avx),(λavy=>ff (aT lm (i:=20) (j:=25) Z (aT lm (i:=10) (j:=20) Z (aT lm (i:=9) (j:=10) Z aoo))) avy),(λ_ _=>avo),(λavz av0=>(ab aov (ao3 avz av0))),(λav1 av2=>(ab aov (aou av1 av2)))⟩
 refine gE (λ_ _ _ av3 aop aow arb=>?_) ?_;obtain⟨cm,mq,cr,ly,cx,lr,lp,cf,zst,w5,w7,w8,w9,aol,aom,aon,nq,ns,nv,aox,aoy,aoz,np,ao0,ao1,apa,apv,p6,aor,apb,apw,r8,aos,apc,apx,nm,sc,aot,ao2,apd,apy,ape,ao3,aou⟩:=av3;have av4:=w7 (arb 9 Z);have a3u:=bz cf;have asi:=nq (arb 9 Z);have aqp:=np;have as5:=ao0 aow;have arc:=p6;have ard:=aor (aT aop (i:=10) (j:=20) Z aow);have arf:=r8;have arh:=aos (aT aop (i:=10) (j:=20) Z aow);have aqq:=nm;have a3w:=bt aqq;have ari:=sc;obtain⟨aqr,as6,av5,av6,av7⟩:=aot (arb 8 Z) aow;have av8:=ape (arb 9 Z) aow;refine AP as5 (ab0 av8) (λasj _ av9 ao5 apz=>?_) (h1:=Tu (bV aqr));have awa:=aS apz ass (bt aqp);have awb:=aS apz ast (bt aqq);have awc:∀jx,jx<i9x->ay asj (H2 jx):=λjx hi=>ab1 apz (hap11 jx hi) (Wr.own arc jx hi);have awd:∀jx,jx<i9x->ay asj (H3 jx):=λjx hi=>ab1 apz (hap13 jx hi) (Wr.own arf jx hi);have aqp:=aa3 ao5 (λe=>ass e.symm) aqp;have arc:=ad4 ao5 hap11 arc;have awe:=ab1 apz asw ard;have ard:=ab5 asw ao5 ard;have arf:=ad4 ao5 hap13 arf;have awf:=ab1 apz asx arh;have arh:=ab5 asx ao5 arh;have aqq:=aa3 ao5 (λe=>ast e.symm) aqq;have awg:=ab1 apz aq1 ari;have ari:=ab5 aq1 ao5 ari;have awh:=ab1 apz (aa4 as6) aqr;have aqr:=ab5 (aa4 as6) ao5 aqr
 have cf:=bB as5 U U cf ao5;have a3y:=ao5.size;refine I ?_;exact fs ⟨cm,mq,asj,ly,cx,lr,lp,cf,U,w5,w7,(λ_=>rfl),w9,aol,aom,aon,(λx=>by have:=nq x;omega),(λx=>by have:=ns x;omega),(λx=>by have:=nv x;omega),aox,aoy,aoz,aqp,(λawi=>tf Z awi),(λ_ _=>⟨av9,awa,awb,awe,awf,awg,awh,awc,awd⟩),(λawj _=>ff (aT aop (i:=10) (j:=20) Z aow) awj),(λawk=>ff (aT aop (i:=20) (j:=25) Z (aT aop (i:=10) (j:=20) Z aow)) awk),arc,(λ_=>ard),(λawl _=>ff (aT aop (i:=10) (j:=20) Z aow) awl),(λawm=>ff (aT aop (i:=20) (j:=25) Z (aT aop (i:=10) (j:=20) Z aow)) awm),arf,(λ_=>arh),(λawn _=>ff (aT aop (i:=10) (j:=20) Z aow) awn),(λawo=>ff (aT aop (i:=20) (j:=25) Z (aT aop (i:=10) (j:=20) Z aow)) awo),aqq,ari,(λ_ awp=>tf Z awp),(λ_ _=>⟨aqr,av5,av6,av7⟩),(λawq _=>ff (aT aop (i:=10) (j:=20) Z aow) awq),(λawr=>ff (aT aop (i:=20) (j:=25) Z (aT aop (i:=10) (j:=20) Z aow)) awr),(λ_ aws=>tf Z aws),(λas7 awt=>(nK ao5 (λg e e2=>by cases e;have:ly<_:=ar8 _ e2.symm;have:=ns as7;omega) (ao3 as7 awt))),(λas8 awu=>(nK ao5 (λg e e2=>by cases e;have:lr<_:=ar8 _ e2.symm;have:=nv as8;omega) (aou as8 awu)))⟩;refine sf ?_
 refine dk (λa4b a4c a4d _ awv a4e _=>by obtain⟨_,_,_,_,_,_,_,_,_,_,_,_,_,_,_,_,_,_,_,_,_,_,_,_,_,_,_,_,_,_,_,_,_,_,_,nm,_⟩:=awv;refine I ?_;exact aK) ?_;refine sf ?_;refine dk (λa4p a4q a4r _ aww a4s _=>by obtain⟨_,_,_,_,_,_,_,_,_,_,_,_,_,_,_,_,_,_,_,_,_,_,np,_⟩:=aww;refine I ?_;exact aK) ?_;refine sf ?_;refine dk (λa4y a4z a40 _ awx a41 _=>by obtain⟨_,_,_,_,_,_,_,cf,_⟩:=awx;have zq8q:=aV (hy.ext cf) (k:=((rl).getD i9x 0)) U;refine I ?_;refine jv zq8q ?_;refine I ?_;exact aK) ?_;refine dk (λa42 a43 a44 _ awy a45 _=>by obtain⟨_,_,_,_,_,_,_,cf,_⟩:=awy;have zq9q:=aV (hy.ext cf) (k:=((rl).getD i9x 0)) U;refine I ?_;exact aK) ?_;refine gE (λ_ awz _ aw0 aoq apf _=>?_) ?_;obtain⟨cm,mq,cr,ly,cx,lr,lp,cf,zst,w5,w7,w8,w9,aol,aom,aon,nq,ns,nv,aox,aoy,aoz,np,ao0,ao1,apa,apv,p6,aor,apb,apw,r8,aos,apc,apx,nm,sc,aot,ao2,apd,apy,ape,ao3,aou⟩:=aw0;have arj:=np;have ask:=p6;have ark:=aor (aT aoq (i:=19) (j:=20) Z apf);have asl:=r8;have arl:=aos (aT aoq (i:=19) (j:=20) Z apf);have arm:=nm;have arn:=sc;refine BS (λ_ v7 _ aw1=>?_);have arj:=be v7 arj;have ask:=aa2 v7 ask;have ark:=ab v7 ark;have asl:=aa2 v7 asl;have arl:=ab v7 arl;have arm:=be v7 arm;have arn:=ab v7 arn;have cf:=xt cf v7;refine I ?_
 exact fs ⟨cm,mq,cr,awz.heap.size,cx,lr,lp,cf,U,w5,w7,w8,(λ_=>rfl),aol,aom,aon,(λx=>by have:=nq x;omega),(λ_=>⟨by omega,by omega⟩),(λx=>by have:=nv x;omega),(λx _=>by have:=nq x;omega),aoy,(λ_ x=>by have:=nv x;omega),arj,(λaw2=>(ab v7 (ao0 aw2))),(λas9 ata=>⟨(ab v7 ((ao1 as9 ata).1)),(ao1 as9 ata).2⟩),(λaw3 _=>ff (aT aoq (i:=19) (j:=20) Z apf) aw3),(λaw4=>ff (aT aoq (i:=20) (j:=25) Z (aT aoq (i:=19) (j:=20) Z apf)) aw4),ask,(λ_=>ark),(λaw5 _=>ff (aT aoq (i:=19) (j:=20) Z apf) aw5),(λaw6=>ff (aT aoq (i:=20) (j:=25) Z (aT aoq (i:=19) (j:=20) Z apf)) aw6),asl,(λ_=>arl),(λaw7 _=>ff (aT aoq (i:=19) (j:=20) Z apf) aw7),(λaw8=>ff (aT aoq (i:=20) (j:=25) Z (aT aoq (i:=19) (j:=20) Z apf)) aw8),arm,arn,(λatb atc=>⟨(ab v7 ((aot atb atc).1)),(aot atb atc).2⟩),(λatd ate=>⟨(ab v7 ((ao2 atd ate).1)),(ao2 atd ate).2⟩),(λaw9 _=>ff (aT aoq (i:=19) (j:=20) Z apf) aw9),(λaxa=>ff (aT aoq (i:=20) (j:=25) Z (aT aoq (i:=19) (j:=20) Z apf)) axa),(λaxb axc=>(ab v7 (ape axb axc))),(λ_ _=>aw1),(λaxd axe=>(ab v7 (aou axd axe)))⟩;refine gE (λ_ _ _ axf aqs apo apq=>?_) ?_
 obtain⟨cm,mq,cr,ly,cx,lr,lp,cf,zst,w5,w7,w8,w9,aol,aom,aon,nq,ns,nv,aox,aoy,aoz,np,ao0,ao1,apa,apv,p6,aor,apb,apw,r8,aos,apc,apx,nm,sc,aot,ao2,apd,apy,ape,ao3,aou⟩:=axf;have axg:=w9 (apq 19 Z);have a5q:=bz cf;have asi:=nq (aqs 10 9 Z (apq 10 Z));have atf:=ns (apq 19 Z);have aqt:=np;obtain⟨aro,axh,axi,axj,atg,axk,axl,axm,axn⟩:=ao1 (apq 10 Z) apo;have arp:=p6;have arq:=aor apo;have arr:=r8;have ath:=aos apo;have aqu:=nm;have a5s:=bt aqu;have ars:=sc;obtain⟨art,axo,ati,axp⟩:=ao2 (apq 10 Z) apo;have axq:=ao3 (apq 19 Z) apo;refine AP ath (ab0 axq) (λasm _ axr ao6 ap0=>?_);have axs:=aS ap0 asu (bt aqt);have axt:=aS ap0 asv (bt aqu);have axu:∀jx,jx<i9x->ay asm (H2 jx):=λjx hi=>ab1 ap0 (hapy1 jx hi) (Wr.own arp jx hi);have axv:∀jx,jx<i9x->ay asm (H3 jx):=λjx hi=>ab1 ap0 (hapy3 jx hi) (Wr.own arr jx hi);have aqt:=aa3 ao6 (λe=>asu e.symm) aqt;have axw:=ab1 ap0 (aa4 atg) aro;have aro:=ab5 (aa4 atg) ao6 aro;have arp:=ad4 ao6 hapy1 arp;have axx:=ab1 ap0 (aa4 asy) arq;have arq:=ab5 (aa4 asy) ao6 arq;have arr:=ad4 ao6 hapy3 arr;have aqu:=aa3 ao6 (λe=>asv e.symm) aqu;have axy:=ab1 ap0 aq2 ars;have ars:=ab5 aq2 ao6 ars
 have axz:=ab1 ap0 (aa4 ati) art;have art:=ab5 (aa4 ati) ao6 art;have cf:=bB ath U U cf ao6;have a5u:=ao6.size;refine I ?_;exact fs ⟨cm,mq,cr,ly,asm,lr,lp,cf,U,w5,w7,w8,w9,(λ_=>rfl),aom,aon,(λx=>by have:=nq x;omega),(λx=>by have:=ns x;omega),(λx=>by have:=nv x;omega),aox,aoy,aoz,aqt,(λax0=>tf (apq 10 Z) ax0),(λ_ ax1=>tf Z ax1),(λ_ _=>⟨aro,axh,axi,axj,axk,axl,axm,axn⟩),(λax2=>ff (aT aqs (i:=20) (j:=25) Z apo) ax2),arp,(λax3=>tf Z ax3),(λ_ _=>⟨arq,auh,aui,ar7,hap31,hap33⟩),(λax4=>ff (aT aqs (i:=20) (j:=25) Z apo) ax4),arr,(λax5=>tf Z ax5),(λ_ _=>⟨axr,axs,axt,axw,axx,axy,axz,axu,axv⟩),(λax6=>ff (aT aqs (i:=20) (j:=25) Z apo) ax6),aqu,ars,(λ_ ax7=>tf (apq 10 Z) ax7),(λ_ ax8=>tf Z ax8),(λ_ _=>⟨art,axo,axp⟩),(λax9=>ff (aT aqs (i:=20) (j:=25) Z apo) ax9),(λ_ aya=>tf (apq 10 Z) aya),(λ_ ayb=>tf Z ayb),(λatj ayc=>(nK ao6 (λg e e2=>by cases e;have:lr<_:=as3 _ e2.symm;have:=nv atj;omega) (aou atj ayc)))⟩;refine sf ?_;refine dk (λa57 a58 a59 _ ayd a6a _=>by obtain⟨_,_,_,_,_,_,_,_,_,_,_,_,_,_,_,_,_,_,_,_,_,_,_,_,_,_,_,_,_,_,_,_,_,_,_,nm,_⟩:=ayd;refine I ?_;exact aK) ?_
 refine dk (λa6b a6c a6d _ a6e a6f _=>by refine aa (aY (v:=vrow) as0 ?_);refine I ?_;exact aK) ?_;refine gE (λ_ aye _ ayf aru arv _=>?_) ?_;obtain⟨cm,mq,cr,ly,cx,lr,lp,cf,zst,w5,w7,w8,w9,aol,aom,aon,nq,ns,nv,aox,aoy,aoz,np,ao0,ao1,apa,apv,p6,aor,apb,apw,r8,aos,apc,apx,nm,sc,aot,ao2,apd,apy,ape,ao3,aou⟩:=ayf;have arw:=np;have asn:=p6;have aso:=r8;have arx:=nm;have aqv:=sc;refine aa (cM (vs:=[(0,vrow)]) (cells:=#[vrow]) Ic jK Z dc dc (jW _ (bV aqv)) Z dc (λ_ ny _ ayg=>?_));have arw:=be ny arw;have asn:=aa2 ny asn;have aso:=aa2 ny aso;have arx:=be ny arx;have aqv:=ab ny aqv;have cf:=xt cf ny;refine I ?_
 exact fs ⟨cm,mq,cr,ly,cx,aye.heap.size,lp,cf,U,w5,w7,w8,w9,aol,(λ_=>rfl),aon,(λx=>by have:=nq x;omega),(λx=>by have:=ns x;omega),(λ_=>⟨by omega,by omega⟩),aox,(λx _=>by have:=nq x;omega),(λx _=>by have:=ns x;omega),arw,(λayh=>(ab ny (ao0 ayh))),(λatk atl=>⟨(ab ny ((ao1 atk atl).1)),(ao1 atk atl).2⟩),(λatm atn=>⟨(ab ny ((apa atm atn).1)),(apa atm atn).2⟩),(λayi=>ff (aT aru (i:=24) (j:=25) Z arv) ayi),asn,(λayj=>(ab ny (aor ayj))),(λato atp=>⟨(ab ny ((apb ato atp).1)),(apb ato atp).2⟩),(λayk=>ff (aT aru (i:=24) (j:=25) Z arv) ayk),aso,(λayl=>(ab ny (aos ayl))),(λatq atr=>⟨(ab ny ((apc atq atr).1)),(apc atq atr).2⟩),(λaym=>ff (aT aru (i:=24) (j:=25) Z arv) aym),arx,aqv,(λatt atu=>⟨(ab ny ((aot att atu).1)),(aot att atu).2⟩),(λatv atw=>⟨(ab ny ((ao2 atv atw).1)),(ao2 atv atw).2⟩),(λatx aty=>⟨(ab ny ((apd atx aty).1)),(apd atx aty).2⟩),(λayn=>ff (aT aru (i:=24) (j:=25) Z arv) ayn),(λayo ayp=>(ab ny (ape ayo ayp))),(λayq ayr=>(ab ny (ao3 ayq ayr))),(λ_ _=>ayg)⟩;refine gE (λ_ _ _ ays aqf aqw oq=>?_) ?_
 obtain⟨cm,mq,cr,ly,cx,lr,lp,cf,zst,w5,w7,w8,w9,aol,aom,aon,nq,ns,nv,aox,aoy,aoz,np,ao0,ao1,apa,apv,p6,aor,apb,apw,r8,aos,apc,apx,nm,sc,aot,ao2,apd,apy,ape,ao3,aou⟩:=ays;have ayt:=aom (oq 24 Z);have a6t:=bz cf;have asi:=nq (aqf 10 9 Z (aqf 20 10 Z (oq 20 Z)));have atf:=ns (aqf 20 19 Z (oq 20 Z));have ayu:=nv (oq 24 Z);have aqx:=np;obtain⟨ary,ayv,ayw,atz,ayx,ayy,ayz,ay0⟩:=apa (oq 20 Z) aqw;have arz:=p6;obtain⟨at0,at1,at2,at3,at4,at6⟩:=apb (oq 20 Z) aqw;have ar0:=r8;obtain⟨ar1,ay1,ay2,ay3,at7,ay4,ay5,ay6,ay7⟩:=apc (oq 20 Z) aqw;have aqy:=nm;have a6v:=bt aqy;have aqz:=sc;obtain⟨ar2,at8,ay8⟩:=apd (oq 20 Z) aqw;have ay9:=aou (oq 24 Z) aqw;refine AP at0 (ab0 ay9) (λasp _ aza apg ap1=>?_) (h1:=Tu (bV aqz));have azb:=aS ap1 at1 (bt aqx);have azc:=aS ap1 at2 (bt aqy);have azd:∀jx,jx<i9x->ay asp (H2 jx):=λjx hi=>ab1 ap1 (at4 jx hi) (Wr.own arz jx hi);have aze:∀jx,jx<i9x->ay asp (H3 jx):=λjx hi=>ab1 ap1 (at6 jx hi) (Wr.own ar0 jx hi);have aqx:=aa3 apg (λe=>at1 e.symm) aqx;have azf:=ab1 ap1 (aa4 atz) ary;have ary:=ab5 (aa4 atz) apg ary;have arz:=ad4 apg at4 arz;have ar0:=ad4 apg at6 ar0;have azg:=ab1 ap1 (aa4 at7) ar1
 have ar1:=ab5 (aa4 at7) apg ar1;have aqy:=aa3 apg (λe=>at2 e.symm) aqy;have azh:=ab1 ap1 at3 aqz;have aqz:=ab5 at3 apg aqz;have azi:=ab1 ap1 (aa4 at8) ar2;have ar2:=ab5 (aa4 at8) apg ar2;have cf:=bB at0 U U cf apg;have a6x:=apg.size;refine I ?_;exact fs ⟨cm,mq,cr,ly,cx,lr,asp,cf,U,w5,w7,w8,w9,aol,aom,(λ_=>rfl),(λx=>by have:=nq x;omega),(λx=>by have:=ns x;omega),(λx=>by have:=nv x;omega),aox,aoy,aoz,aqx,(λazj=>tf (aqf 20 10 Z (oq 20 Z)) azj),(λ_ azk=>tf (oq 20 Z) azk),(λ_ azl=>tf Z azl),(λ_=>⟨ary,ayv,ayw,ayx,ayy,ayz,ay0⟩),arz,(λazm=>tf (oq 20 Z) azm),(λ_ azn=>tf Z azn),(λ_=>⟨aza,azb,azc,azf,azg,azh,azi,azd,aze⟩),ar0,(λazo=>tf (oq 20 Z) azo),(λ_ azp=>tf Z azp),(λ_=>⟨ar1,ay1,ay2,ay3,ay4,ay5,ay6,ay7⟩),aqy,aqz,(λ_ azq=>tf (aqf 20 10 Z (oq 20 Z)) azq),(λ_ azr=>tf (oq 20 Z) azr),(λ_ azs=>tf Z azs),(λ_=>⟨ar2,ay8⟩),(λ_ azt=>tf (aqf 20 10 Z (oq 20 Z)) azt),(λ_ azu=>tf (oq 20 Z) azu),(λ_ azv=>tf Z azv)⟩;refine sf ?_;rintro asq _ _ aph ⟨cm,mq,cr,ly,cx,lr,lp,cf,zst,w5,w7,w8,w9,aol,aom,aon,nq,ns,nv,aox,aoy,aoz,np,ao0,ao1,apa,apv,p6,aor,apb,apw,r8,aos,apc,apx,nm,sc,aot,ao2,apd,apy,ape,ao3,aou⟩;have asi:=nq (aph 9 Z)
 have atf:=ns (aph 19 Z);have ayu:=nv (aph 24 Z);have ap2:=np;obtain⟨ap3,azw,ar3,azx,azy,azz,az0⟩:=apv (aph 25 Z);have ap4:=p6;obtain⟨ap5,az1,ar4,az2,az3,az4,az5,az6,az7⟩:=apw (aph 25 Z);have ap6:=r8;obtain⟨ap7,az8,ar5,az9,a0a,a0b,a0c,a0d⟩:=apx (aph 25 Z);have at9:=nm;have a7h:=bt at9;have ap8:=sc;obtain⟨ao7,_⟩:=apy (aph 25 Z);have a0e:asq 78=cr:=(w8 (aph 10 Z));refine aa (cI (b:=cy.heap.size) (o:=0) (v:=cr) zi Z a0e (bV ap3) at9 (qa3 Z) (λ_ api a0f=>?_));have ap2:=pb api ap2;have ap3:=av api ar3 ap3;have ap4:=ab8 api U ap4;have ap5:=av api ar4 ap5;have ap6:=ab8 api U ap6;have ap7:=av api ar5 ap7;have ap8:=av api aql ap8;have ao7:=av api (λe=>by have:=aR ao7 _ e;omega) ao7;have cf:=bA api cf;have a7k:=ij api;refine I ?_;have a0g:asq 88=cx:=(aol (aph 20 Z));refine aa (cI (b:=cy.heap.size) (o:=1) (v:=cx) iS Z a0g (bV ap7) a0f (qa3 Z) (λ_ apj a0h=>?_));have ap2:=pb apj ap2;have ap3:=av apj ar3 ap3;have ap4:=ab8 apj U ap4;have ap5:=av apj ar4 ap5;have ap6:=ab8 apj U ap6;have ap7:=av apj ar5 ap7;have ap8:=av apj aql ap8;have ao7:=av apj (λe=>by have:=aR ao7 _ e;omega) ao7;have cf:=bA apj cf
 have a7m:=ij apj;refine I ?_;have a0i:asq 93=lp:=(aon (aph 25 Z));refine aa (cI (b:=cy.heap.size) (o:=2) (v:=lp) zi Z a0i (bV ap5) a0h (qa3 Z) (λaua apk a0j=>?_));have ap2:=pb apk ap2;have ap3:=av apk ar3 ap3;have ap4:=ab8 apk U ap4;have ap5:=av apk ar4 ap5;have ap6:=ab8 apk U ap6;have ap7:=av apk ar5 ap7;have ap8:=av apk aql ap8;have ao7:=av apk (λe=>by have:=aR ao7 _ e;omega) ao7;have cf:=bA apk cf;have a7n:=ij apk;refine I ?_;refine gR (I ?_);have hkm:=pe.km i9x hlo;have hce:ac=KC i9x:=wS (by rw[pe.cl i9x hlo];omega) (λk hk=>by rw[pe.ce i9x hlo k U];exact hacf k U);have a0k:World.ownsRow aua wr.heap.size 33 2 cm (KM i9x).length (ag (KM i9x)):=by rw[hkm];exact ao7
 have a0l:=b9 (lo':=cv.heap.size) U a0k;have a0m:∀j,j<i9x->ay cm (H2 j):=Wr.far ap4 ao7 U;have a0n:World.ownsRow aua aqe.heap.size 33 2 vrow (KC i9x).length (ag (KC i9x)):=by rw[<-hce];exact ap8
 have a0o:=b9 (lo':=cv.heap.size) U a0n;have a0p:∀j,j<i9x->ay vrow (H3 j):=Wr.far ap6 ap8 U;refine I ?_;exact bJ ⟨i9x+1,bD H2 i9x cm,cr,bD H3 i9x vrow,lp,acY++[ap ys (rl.getD i9x 0)],cx,rfl,rfl,U,(λj hj=>ef azz azy j hj),(λj hj=>ef az0 azx j hj),(λj hj=>ef az6 az5 j hj),(λj hj=>ef az7 az4 j hj),(λj hj=>ef a0c a0b j hj),(λj hj=>ef a0d a0a j hj),q4,(sU (f:=λj=>ap ys (rl.getD j 0)) halY hacY),U,azw,ar3,az1,ar4,az8,ar5,(aa4 az2),(aa4 az9),az3,cf,ap2,(aP ap3 Z (eU H2 i9x cm).symm),(by have h:=Wr.push ap4 a0l a0m;rwa [kV]at h),(aP ap5 Z (eU H3 i9x vrow).symm),(by have h:=Wr.push ap6 a0o a0p;rwa [kV]at h),(aP ap7 zd (du _ (ap ys (rl.getD i9x 0)))),a0j⟩;have hi9:i9x=KY.length:=J
 subst hi9;have hye:acY=KY:=wS U (λk hk=>by rw[hacY k U,pe.ye k U]);subst hye;have aqd:ar wr cy.heap.size 30 #[.slice (sA vm) acY.length (sC vm),.slice (sA vy) acY.length (sC vy),.slice (sA vc) acY.length (sC vc)]:=by rw[<-dr hout,<-dr hout3,<-dr hyrow];exact fx
 have hmm:=Wr.mt hwr (ek hout);have hmc:=Wr.mt hwr3 (ek hout3);have hmy:=ek hyrow;have hmk:=kj hout3;have ap9:=ab6 hmm;have aqa:=ab6 hmc;have aqb:=ab9 hmy;refine I ?_;(try refine aa (aM (cs:=[.slice (sA vm) acY.length (sC vm),.slice (sA vy) acY.length (sC vy),.slice (sA vc) acY.length (sC vc)]) (b:=cy.heap.size) (o:=0) dj Z bm Z (aa1 aqd (i:=0) Z) ?_));refine cl lg (iJ (ap9).mt (fe okq.hv) (aqb).rw (aqa).mt (fe okq.hv3) hmk okq.hv okq.hv3 okq.hVl okq.hLl okq.hyo okq.hp (ht.ext lq)) ?_;rintro _ _ aqg rfl;have⟨cw,aqd⟩:=gu aqg.2 cw aqd;have ap9:=aa7 aqg.2 ap9;have aqa:=aa7 aqg.2 aqa;have aqb:=ab3 aqg.2 aqb;have lq:=xt lq aqg.2;refine cl fK dn ?_;rintro _ _ aqh rfl;have⟨cw,aqd⟩:=gu aqh.2 cw aqd;have ap9:=aa7 aqh.2 ap9;have aqa:=aa7 aqh.2 aqa;have aqb:=ab3 aqh.2 aqb;have lq:=xt lq aqh.2;refine I ?_;(try refine aa (aM (cs:=[.slice (sA vm) acY.length (sC vm),.slice (sA vy) acY.length (sC vy),.slice (sA vc) acY.length (sC vc)]) (b:=cy.heap.size) (o:=0) dj Z bm Z (aa1 aqd (i:=0) Z) ?_))
 refine aa (bo (b:=cy.heap.size) (o:=0) (vs:=[.slice (sA vm) acY.length (sC vm),.slice (sA vy) acY.length (sC vy),.slice (sA vc) acY.length (sC vc)]) bm Z Z zl aqd (qa3 Z) (λ_ aqi a0q=>?_));have cw:=pb aqi cw;have ap9:=ad0 aqi U ap9;have aqa:=ad0 aqi U aqa;have aqb:=ac1 aqi U aqb;have lq:=bA aqi lq;refine I ?_;refine ba (v:=.agg #[.slice (sA vm) acY.length (sC vm),.slice (sA vy) acY.length (sC vy),.slice (sA vc) acY.length (sC vc)]) (cC  rfl ?_) lq ⟨_,_,_,_,_,_,rfl,⟨⟨_,((ap9).mt).mono U⟩,((aqb).rw).mono U,⟨_,((aqa).mt).mono U⟩,hmk⟩⟩;refine ak (t:=4) (cs:=[.slice (sA vm) acY.length (sC vm),.slice (sA vy) acY.length (sC vy),.slice (sA vc) acY.length (sC vc)]) (b:=cy.heap.size) (o:=0) dj Z bm ?_ ?_;exact Z;exact aa1 a0q (i:=0) Z
def LY {lb:List Value}{KM KC:Rows}{KY:List R}(hg:Enters prog gf)(hc:∀W,aN w W->CL gf lb.toArray W (aH W λv w'=>∃A C Y CY B CB,v=.agg #[.slice A KY.length C,.slice Y KY.length CY,.slice B KY.length CB]/\ia W.heap.size w' A C Y CY B CB KM KC KY)):
 CL 51 #[.func (.func gf) #[] lb.toArray] w (aH w λv w'=>∃u,v=.tuple #[u,.int .i64 0]/\∃A C Y CY B CB,u=.agg #[.slice A KY.length C,.slice Y KY.length CY,.slice B KY.length CB]/\ia w.heap.size w' A C Y CY B CB KM KC KY):=by
 refine mI func51 Z (I ?_);refine al dX (λA0 Aw H=>?_);have E:=Aw.2;refine al mi (λ_ nm G=>?_);have⟨H,E⟩:=bw nm.2 H E;refine I ?_;refine aa (aE (vf:=[]) (vc:=[pT w.heap.size,pT A0.heap.size]) Z Z ?_);refine aa (jb (lb:=[pT w.heap.size,pT A0.heap.size]) Z ?_);refine I ?_;refine aa (l5 (f:=gf) (lb:=lb) (vs:=[]) hg Z Z (hc _ E) ?_);rintro _ _ As ⟨Ap,Af,A1,Ar,Am,A2,rfl,O⟩;have⟨H,G,E⟩:=cD As.2 H G E;refine aa (bo (b:=w.heap.size) (o:=0) (vs:=[.slice Ap KY.length Af,.slice A1 KY.length Ar,.slice Am KY.length A2]) bm Z Z zl H (qa3 Z) (λ_ Ao Aq=>?_));have G:=pb Ao G;have O:=ia.put Ao U O;have E:=bA Ao E;refine SO G (λ_ Ab Av=>?_);have Aq:=pb Ab Aq;have O:=ia.put Ab U O;have E:=bA Ab E;refine I ?_;refine ou (b1:=w.heap.size) (b2:=A0.heap.size) (v:=.tuple #[.agg #[.slice Ap KY.length Af,.slice A1 KY.length Ar,.slice Am KY.length A2],.int .i64 0]) SR (λ_ _=>Kf) E (de (r1:=.cell 2 30) (r2:=.cell 3 36) Z ?_ ?_) ⟨_,rfl,_,_,_,_,_,_,rfl,ia.mono U O⟩;refine ak (t:=2) (cs:=[.slice Ap KY.length Af,.slice A1 KY.length Ar,.slice Am KY.length A2]) (b:=w.heap.size) (o:=0) dj Z bm ?_ ?_;exact Z
 exact aa1 Aq (i:=0) Z;refine bI (t:=3) (b:=A0.heap.size) (o:=0) BV Z ?_ ?_;exact Z;exact ab4 Av Z
def LZ {L V:Rows}{ys:List R}(hD:eZ w A C Y CY B CB L V ys)(ok:qi L V ys)(hb:ar w b 30 #[.slice A ys.length C,.slice Y ys.length CY,.slice B ys.length CB]){KM KC:Rows}{KY:List R}(hb2:ar w b2 22 #[.slice kd rl.length CR])(hR:Rw w lo5 kd (ints rl))(pe:qd L V ys rl KM KC KY)(okq:qi KM KC KY)(ht:Tb w):
 CL 52 #[pT b,pT b2] w (aH w λv w'=>∃A C Y CY B CB,v=.agg #[.slice A KY.length C,.slice Y KY.length CY,.slice B KY.length CB]/\ia w.heap.size w' A C Y CY B CB KM KC KY):=by
 obtain⟨_,H,hM⟩:=hD.m;obtain⟨_,hy⟩:=hD.y;obtain⟨_,G,hV⟩:=hD.v;have Ay:=bt hb;have Ax:=bt hb2;refine aC func52 Z (I ?_);refine al dX (λ_ Aq O=>?_);have⟨hb,hb2⟩:=gu Aq.2 hb hb2;have E:=Aq.2;refine I ?_;(try refine aa (aM (cs:=[.slice A ys.length C,.slice Y ys.length CY,.slice B ys.length CB]) (b:=b) (o:=0) dj Z bm Z (aa1 hb (i:=0) Z) ?_));refine cl lg (iJ (hM.ext E) (fe ok.hv) (hy.ext E) (hV.ext E) (fe ok.hv3) hD.c ok.hv ok.hv3 ok.hVl ok.hLl ok.hyo ok.hp (ht.ext E)) ?_;rintro _ _ Ar rfl;have⟨hb,hb2,O,E⟩:=fE Ar.2 hb hb2 O E;refine cl fK dn ?_;rintro _ _ Aw rfl;have⟨hb,hb2,O,E⟩:=fE Aw.2 hb hb2 O E;refine I ?_;(try refine aa (aM (cs:=[.slice A ys.length C,.slice Y ys.length CY,.slice B ys.length CB]) (b:=b) (o:=0) dj Z bm Z (aa1 hb (i:=0) Z) ?_));refine aa (b7 (vs:=[(0,.agg #[.slice A ys.length C,.slice Y ys.length CY,.slice B ys.length CB])]) (cells:=#[.slice A ys.length C,.slice Y ys.length CY,.slice B ys.length CB]) (pl:=[(0,3)]) nz oQ q0 Z q0 ?_);refine I ?_;refine cl SG (LX (hD.ext E) ok (hR.ext E) pe okq (ht.ext E)) ?_;rintro _ _ As ⟨A2,Af,Ab,A0,Ap,Am,rfl,A1⟩;have⟨hb,hb2,O,E⟩:=fE As.2 hb hb2 O E
 refine aa (bo (b:=w.heap.size) (o:=0) (vs:=[.slice A2 KY.length Af,.slice Ab KY.length A0,.slice Ap KY.length Am]) bm Z Z zl O (qa3 Z) (λ_ Ao Av=>?_));have⟨hb,hb2⟩:=lw Ao hb hb2;have A1:=ia.put Ao U A1;have E:=bA Ao E;refine I ?_;refine ba (v:=.agg #[.slice A2 KY.length Af,.slice Ab KY.length A0,.slice Ap KY.length Am]) (cC  rfl ?_) E ⟨_,_,_,_,_,_,rfl,ia.mono U A1⟩;refine ak (t:=2) (cs:=[.slice A2 KY.length Af,.slice Ab KY.length A0,.slice Ap KY.length Am]) (b:=w.heap.size) (o:=0) dj Z bm ?_ ?_;exact Z;exact aa1 Av (i:=0) Z
def yN {L V:Rows}{ys:List R}(hD:eZ w A C Y CY B CB L V ys)(ok:qi L V ys){KM KC:Rows}{KY:List R}(hR:Rw w lo5 kd (ints rl))(pe:qd L V ys rl KM KC KY)(okq:qi KM KC KY)(ht:Tb w):
 CL 22 #[.agg #[.slice A ys.length C,.slice Y ys.length CY,.slice B ys.length CB],.slice kd rl.length CR] w (aH w λv w'=>∃u,v=.tuple #[u,.int .i64 0]/\∃A C Y CY B CB,u=.agg #[.slice A KY.length C,.slice Y KY.length CY,.slice B KY.length CB]/\ia w.heap.size w' A C Y CY B CB KM KC KY):=by
 obtain⟨_,H,_⟩:=hD.m;obtain⟨_,_⟩:=hD.y;obtain⟨_,G,_⟩:=hD.v;refine aC func22 Z (I ?_);refine bx (λAs Ax O=>?_);have E:=Ax.2;refine bx (λnm Az A0=>?_);have⟨O,E⟩:=bw Az.2 O E;refine al dX (λ_ Aw Ab=>?_);have⟨O,A0,E⟩:=cD Aw.2 O A0 E;refine I ?_;refine aa (aE (vf:=[]) (vc:=[pT w.heap.size,pT As.heap.size]) Z Z ?_);refine cl SE (LY (gf:=52) (lb:=[pT w.heap.size,pT As.heap.size]) SF (λW q=>LZ (hD.ext (xt E q)) ok (be q O) (be q A0) (hR.ext (xt E q)) pe okq (ht.ext (xt E q)))) ?_;rintro _ _ Ay ⟨B0,rfl,Ap,Af,Am,Aq,Ao,A1,rfl,Ar⟩;have⟨O,A0,Ab,E⟩:=fE Ay.2 O A0 Ab E;refine I ?_;refine aa (bo (b:=nm.heap.size) (o:=0) (vs:=[.slice Ap KY.length Af,.slice Am KY.length Aq,.slice Ao KY.length A1]) bm Z Z zl Ab (qa3 Z) (λ_ A2 Av=>?_));have⟨O,A0⟩:=lw A2 O A0;have Ar:=ia.put A2 U Ar;have E:=bA A2 E;refine I ?_;refine ba (v:=.tuple #[.agg #[.slice Ap KY.length Af,.slice Am KY.length Aq,.slice Ao KY.length A1],.int .i64 0]) (de (r1:=.cell 4 30) (r2:=.tmp 5) Z ?_ ?_) E ⟨_,rfl,_,_,_,_,_,_,rfl,ia.mono U Ar⟩
 refine ak (t:=4) (cs:=[.slice Ap KY.length Af,.slice Am KY.length Aq,.slice Ao KY.length A1]) (b:=nm.heap.size) (o:=0) dj Z bm ?_ ?_;exact Z;exact aa1 Av (i:=0) Z;exact aL (t:=5) Wf _
end
section
open Go Go.Eng Go.RowKit Tryz
structure j4 (n:Nat)(k4:World->Prop):Prop where
 ext:∀{A B:World},aN A B->k4 A->k4 B
 put:∀{A B:World} {b:Nat},dP A B b->n<=b->k4 A->k4 B
structure jh (bs:List Nat)(W W':World):Prop where
 size:W.heap.size<=W'.heap.size
 blk:∀{b:Nat} {t:TypeId} {cs:Array Value},b∉bs->ar W b t cs->ar W' b t cs
def jh.trans {A B C:World}(h:jh bs A B)(k:jh bs B C):jh bs A C:=⟨qa8 h.size k.size,λE hb=>k.blk E (h.blk E hb)⟩
def jh.of {A B:World}(h:eK bs A B):jh bs A B:=⟨h.size,λE hb=>h.blk E hb⟩
def jh.putObj {A:World}{r r':Loop}(h:A.heap[b]?=some (.loop r)):jh bs A (A.putObj b (.loop r')):=
 ⟨by simp,fun{c t cs} _ hb=>(World.putObj_heap_other (λe=>by subst e;unfold ar at hb;rw[h]at hb;cases hb)).trans hb⟩
def dp (W:World)(b:Nat)(o:Obj):dP W (W.putObj b o) b:=⟨rfl,rfl,rfl,by simp,λk hk=>World.putObj_heap_other hk⟩
def Rs (P:Program)(gf:Nat)(lb:List Value)(enc:Nat->List Value)(bs:List Nat)(Kq:World->Prop)(M:Nat)(w:World):Prop:=
 ∀ (l:Nat) (k6 Jx:Nat->World->Prop) (W:World),Below w.heap.size w W->(∀k,j4 W.heap.size (k6 k))->(∀k,j4 W.heap.size (Jx k))->(∀k W1,k6 k W1->k<M)->
  (∀k W1,k6 k W1->YieldAt Fence.wide 7 P l (enc k).toArray W1 λe W'=>(e=.returned (.bool true)/\k6 (k+1) W'/\jh bs W1 W'/\(Kq W1->Kq W'))\/(e=.returned (.bool false)/\Jx (k+1) W'))->
  k6 0 W->CallsIn Fence.wide 8 P gf (#[.func (.yield l) #[] #[]]++lb.toArray) W λe W'=>(∃v,e=.returned v)/\∃k,Jx k W'
def Zv (bs:List Nat)(Kq:World->Prop)(k4:Nat->World->Prop)(Ix:Code->Nat->World->Prop)(k:Nat)(W:World):Exit->Act->World->Prop
 | .normal,_,W'=>KeepsOthers W W'/\jh bs W W'/\(Kq W->Kq W')/\k4 k W'
 | .ret,_,W'=>KeepsOthers W W'/\Ix .ret k W'
 | .exit id,_,W'=>KeepsOthers W W'/\Ix (.exit id) k W'
 |_,_,_=>False
def vW (W:World)(b:Nat)(r:Loop):Prop:=W.heap[b+1]?=some (.loop r)/\W.heap[b]?=some (.deferred (some []))
def vW.put {r:Loop}(h:vW W b r)(r':Loop):vW (W.putObj (b+1) (.loop r')) b r':=
 ⟨World.putObj_heap_same (Array.getElem?_eq_some_iff.1 h.1).1,(World.putObj_heap_other J).trans h.2⟩
def vW.kept {r:Loop}(h:vW W b r)(k:KeepsOthers W W'):vW W' b r:=⟨k.same _ _ h.1 Z,k.same _ _ h.2 Z⟩
def vW.stab {r:Loop}(h:b+1<n):j4 n λW=>vW W b r:=
 ⟨λk h=>⟨k.heap h.1,k.heap h.2⟩,λk hb h=>⟨(k.block _ J).trans h.1,(k.block _ J).trans h.2⟩⟩
def j4.and {k4 k6:World->Prop}(h:j4 n k4)(k:j4 n k6):j4 n λW=>k4 W/\k6 W:=⟨λe x=>⟨h.ext e x.1,k.ext e x.2⟩,λe l x=>⟨h.put e l x.1,k.put e l x.2⟩⟩
def j4.ex {α:Type}{k4:α->World->Prop}(h:∀a,j4 n (k4 a)):j4 n λW=>∃a,k4 a W:=⟨λe ⟨a,x⟩=>⟨a,(h a).ext e x⟩,λe l ⟨a,x⟩=>⟨a,(h a).put e l x⟩⟩
def j4.mono {m:Nat}{k4:World->Prop}(h:j4 n k4)(hl:n<=m):j4 m k4:=⟨h.ext,λk hb=>h.put k (qa8 hl hb)⟩
def L0 {e:Nat->Value}{Q:Exit->Act->World->Prop}{enc:Nat->List Value}{Kq:World->Prop}{lb:List Value}{g:Operand}{assign body:Code}(hg:ev N e g=.func (.func gf) #[] lb.toArray)(eg:Enters P gf)(hit:Rs P gf lb enc bs Kq M w)(hKq:j4 w.heap.size Kq)(hps:∀i,(enc i).length=ps.length)(k4:Nat->World->Prop)(Ix:Code->Nat->World->Prop)(hI:∀k,j4 w.heap.size (k4 k))(hIx:∀c k,j4 w.heap.size (Ix c k))(hM:∀k W,k4 k W->k<M)(h0:k4 0 w)(A:(Nat->Value)->Nat->(Nat->Value)->World->Prop)(hA:∀k e' W b r r',w.heap.size<=b->W.heap[b]?=some (.loop r)->A e k e' W->A e k e' (W.putObj b (.loop r')))(hassign:∀l k W K,k4 k W->(∀e' W',aN W W'->A e k e' W'->K (act N e' []) W')->assign.wpIn (Fw (some l)) 7 P (Exit.then K (λ_ _ _=>False)) (act N (ku e ps (enc k)) []) W)(hbody:∀l k e' W,A e k e' W->body.wpIn (Fw (some l)) 7 P (Zv bs Kq k4 Ix (k+1) W) (act N e' []) W)(hstop:∀D c k W,w.heap.size<=D->Ix c k W->ll W D->c.wpIn (Fw none) 9 P Q (act N e (⟨.collected D,#[]⟩::ds)) W):
 (Code.rangeFunc g ps.toArray assign body).wpIn (Fw none) 9 P Q (act N e ds) w:=by
 refine wpIn_rangeFunc (F:=Fence.wide) (n:=9) λfn Af=>?_
 obtain⟨R,hR⟩:∃R:LoopState->Option Code->Loop,R=λAo A2=>{state:=Ao,pending:=A2,fn,tmps:=(act N e ds).tmps,params:=ps.toArray,assign,body,defers:=w.heap.size}:=⟨_,rfl⟩
 obtain⟨V,hV⟩:∃V,(w.alloc (.deferred (some []))).alloc (.loop (R .ready none))=V:=⟨_,rfl⟩
 have hB:vW V w.heap.size (R .ready none):=by
  refine⟨?_,?_⟩ <;>rw[<-hV]
  · have h:=World.alloc_heap_new (w.alloc (.deferred (some []))) (.loop (R .ready none));rwa [World.size_alloc]at h
  · exact(Below.heap_alloc _ _ _ zd).trans (World.alloc_heap_new w _)
 have O:w.heap.size+1<V.heap.size:=by rw[<-hV];simp
 have A0:Below w.heap.size w V:=by rw[<-hV];exact((Below.refl _ w).alloc (qa0 _) _).alloc zd _
 have hI0:k4 0 V:=(hI 0).ext A0 h0
 refine⟨w.heap.size+1,[⟨.collected w.heap.size,#[]⟩],V,⟨.fn (.func gf) lb.toArray,#[.func (.yield (w.heap.size+1)) #[] #[]]⟩,V,gf,#[.func (.yield (w.heap.size+1)) #[] #[]]++lb.toArray,V,?_,?_,?_,?_,λ_=>by omega,?_⟩
 · rw[<-hV,hR];exact run_enterLoop_outer _ _ _ _ _
 · have hg':(act N e ds).eval g=.func (.func gf) #[] lb.toArray:=by rw[cS];exact hg
   simp only[resolve,hg'];simp[go_sem]
 · intro Ar _;trivial
 · simp[invoke,go_sem];exact eg _ _
 refine(hit (w.heap.size+1) (λk W=>k4 k W/\vW W w.heap.size (R .ready none)) (λk W=>∃c,Ix c k W/\vW W w.heap.size (R .done (some c))) V A0
  (λk=>((hI k).mono J).and (vW.stab O)) (λk=>j4.ex λc=>((hIx c k).mono J).and (vW.stab O)) (λk W h=>hM k W h.1) ?_ ⟨hI0,hB⟩).mono ?_
 ·
  rintro k W ⟨hi,hk⟩
  have hy:=run_yield (P:=P) (args:=(enc k).toArray) hk.1 (by rw[hR];simpa using hps k)
  rw[hR]at hy
  refine⟨fn,_,assign,body,hy,roundIn_of_wpIn Af ?_⟩
  have hfold:(⟨(ps.toArray.zip (enc k).toArray).foldl (λt (p,v)=>t.setIfInBounds p v) (act N e ds).tmps,[]⟩:Act)=act N (ku e ps (enc k)) []:=by
   have h:=oU N ps (enc k) e
   have h2:act N (ku e ps (enc k)) []=⟨(act N (ku e ps (enc k)) []).tmps,[]⟩:=rfl
   rw[h2,<-h]
   simp only[List.zip_toArray,List.foldl_toArray]
   rfl
  rw[hfold]
  refine hassign (w.heap.size+1) k W _ hi λe' W' hx Ab=>?_
  have hk:vW W' w.heap.size (R .ready none):=⟨hx.heap hk.1,hx.heap hk.2⟩
  refine⟨_,run_beginRound hk.1 (by rw[hR]),?_⟩
  have A1:=hk.put {R .ready none with state:=.busy}
  refine wpIn_mono (hbody (w.heap.size+1) k e' _ (hA k e' _ _ _ _ J hk.1 Ab)) ?_
  have Ap:jh bs W W':=⟨hx.size,λ_ h=>h.ext hx⟩
  have H:∀(j:Option Code) (W3:World),KeepsOthers (W'.putObj (w.heap.size+1) (.loop {R .ready none with state:=.busy})) W3->
   vW W3 w.heap.size {R .ready none with state:=.busy}/\(Instr.endRound (w.heap.size+1) j).run P W3=.ok (.bool j.isNone) (W3.putObj (w.heap.size+1) (.loop (R (if j.isNone then .ready else .done) j))):=λj W3 h3=>by
   have h4:=A1.kept h3
   refine⟨h4,?_⟩
   have E:=run_endRound (P:=P) j h4.1
   rw[hR]at E ⊢
   exact E
  rintro x Aq W3 G
  cases x with
  | normal=>
    obtain⟨h1,Am,h2,h3⟩:=G
    obtain⟨h4,E⟩:=H none W3 h1
    exact⟨_,_,E,.inl ⟨rfl,⟨(hI _).put (dp _ _ _) J h3,h4.put _⟩,Ap.trans (((jh.putObj hk.1).trans Am).trans (jh.putObj h4.1)),λh=>hKq.put (dp _ _ _) J (h2 (hKq.put (dp _ _ _) J (hKq.ext hx h)))⟩⟩
  | ret=>
    obtain⟨h1,h3⟩:=G
    obtain⟨h4,E⟩:=H (some .ret) W3 h1
    exact⟨_,_,E,.inr ⟨rfl,.ret,(hIx _ _).put (dp _ _ _) J h3,h4.put _⟩⟩
  | exit id=>
    obtain⟨h1,h3⟩:=G
    obtain⟨h4,E⟩:=H (some (.exit id)) W3 h1
    exact⟨_,_,E,.inr ⟨rfl,.exit id,(hIx _ _).put (dp _ _ _) J h3,h4.put _⟩⟩
  |goto t=>exact G.elim
  |panic c=>exact G.elim
  |outgrown=>exact G.elim
 · rintro x W2 ⟨⟨v,rfl⟩,k,c,hi,hk⟩
   have h:=run_endLoop (P:=P) hk.1 (by rw[hR];simp)
   rw[hR]at h
   refine⟨some c,_,h,hstop _ c k _ (qa0 _) ((hIx c k).put (dp _ _ _) J hi) (hk.put _).2⟩
structure mP (w w':World)(base:Nat)(el:TypeId)(v v':Value)(k:Nat)(xs:List Value)(x:Value):Prop where
 own:w'.ownsRow base el 1 v' (k+1) (xs++[x])
 how:(aN w w'/\v'.ownBlock=some w.heap.size)\/∃g cap,v=.slice (some ⟨g,0,none⟩) k cap/\v'=.slice (some ⟨g,0,none⟩) (k+1) cap/\dP w w' g
def L5 {t ty el:TypeId}{z:Value}{v x:Value}(hu:P.underlying t=some (.slice el))(hi:gw P el z 1 bytes)(hz:z.cells.size=1)(hown:w.ownsRow base el 1 v k xs)(hr:Rw w lo (some ⟨b,0,none⟩) [x])(hx1:x.oneCell'=true)(hk:k<=1000)(hby:bytes<=1000)(hbase:base<=w.heap.size):
 ∃v' w',(Builtin.append_ #[t,t] ty #[v,.slice (some ⟨b,0,none⟩) 1 1]).run P w=.ok v' w'/\mP w w' base el v v' k xs x:=by
 obtain⟨i,G,A0,H,O⟩:=hi.parts
 have hl:[x].length=1*i.size:=by rw[H];rfl
 have hnews:∀j u,[x][j]? =some u->w.cell? ((⟨b,0,none⟩:Addr).add j)=some u:=λj u hu=>by
  obtain⟨_,_,hA,hc⟩:=hr.cells j u hu;cases hA;rw[Addr.add_mid];exact hc
 have h1:∀u∈[x],u.oneCell'=true:=λu h=>by rw[List.mem_singleton.1 h];exact hx1
 have A1:(k+1)*bytes<=140737488355328:=qa8 (qb9 (show k+1<=1001 by omega) hby) dc
 obtain⟨v',w',E,h2,_,_,_⟩:=run_append_own_at (P:=P) w base t ty el i z 1 bytes hu G A0 H O hz dc v k xs hown ⟨b,0,none⟩ 1 1 [x] zd hnews h1 Rd A1 hbase
 refine⟨v',w',E,h2,?_⟩
 rcases hown.2 with⟨rfl,rfl⟩|⟨g,cap,cur,rfl,hbg,hg,hnc,hcm,hcs,htake⟩
 · have e:=run_append_nil (P:=P) w t ty el i z hu G A0 ⟨b,0,none⟩ 1 1 [x] hl hnews dc dc (by rw[O];omega)
   rw[E]at e
   injection e with e1 e2
   subst e1 e2
   exact .inl ⟨(ac3 w).trans (ae1 _ _),rfl⟩
 · by_cases hroom:k+1<=cap
   · have e:=run_append_room (P:=P) w t ty el i hu G g k cap cur hg ⟨b,0,none⟩ 1 1 [x] hl hnews h1 hroom (by rw[H,hcs];simp;omega)
     rw[E]at e
     injection e with e1 e2
     subst e1 e2
     exact .inr ⟨g,cap,rfl,rfl,⟨rfl,rfl,rfl,by simp,λc hc=>setRow_other w g c _ hc⟩⟩
   · have e:=run_append_grow (P:=P) w t ty el i z hu G A0 ⟨g,0,none⟩ k cap xs (by rw[hown.1,H]) (hown.cells (g:=g) Z) ⟨b,0,none⟩ 1 1 [x] hl hnews U U (growslice_fits U (by rw[O];exact A1))
     rw[E]at e
     injection e with e1 e2
     subst e1 e2
     exact .inl ⟨(ac3 w).trans (ae1 _ _),rfl⟩
def bl (v:Value):List Nat:=match v.ownBlock with|some g=>[g]|none=>[]
section
variable {w1 W2:World}{n0 sz:Nat}{el:TypeId}{v v' x:Value}
def yO (h:w.ownsRow base el sz v k xs)(kp:jh bs w W)(hb:∀g,v.ownBlock=some g->g∉bs):W.ownsRow base el sz v k xs:=by
 obtain⟨h1,h2|⟨g,cap,G,rfl,H,E,r⟩⟩:=h
 · exact⟨h1,.inl h2⟩
 · exact⟨h1,.inr ⟨g,cap,G,rfl,H,kp.blk (hb g Z) E,r⟩⟩
def PL {cap:Nat}(h:W.ownsRow base el 1 (.slice (some ⟨g,0,none⟩) (k+1) cap) (k+1) (xs++[x]))(hl:xs.length=k):W.ownsRow base el 1 (.slice (some ⟨g,0,none⟩) k cap) k xs:=by
 obtain⟨h1,h2|⟨A2,Ab,G,e,A0,E,A1,H,O,htake⟩⟩:=h
 · exact absurd h2.1 zd
 · injection e with e1 e2 e3
   injection e1 with e1
   injection e1 with e1
   subst e1 e3
   refine⟨by omega,.inr ⟨g,cap,G,rfl,A0,E,by omega,H,O,?_⟩⟩
   have h3:=qb2 (List.take (k*1)) htake
   rw[List.take_take,Nat.min_eq_left U,List.take_left' U]at h3
   exact h3
def yQ (h:w.ownsRow base el sz v k xs)(hg:v.ownBlock=some g):base<=g/\g<w.heap.size:=by
 obtain⟨_,h2|⟨H,cap,O,rfl,G,E,_⟩⟩:=h
 · rw[h2.1]at hg;cases hg
 · cases hg;exact⟨G,(Array.getElem?_eq_some_iff.1 E).1⟩
def vb :g∈bl v↔v.ownBlock=some g:=by
 unfold bl
 cases h:v.ownBlock with
 |none=>simp
 |some a=>simp[eq_comm]
def jh.ofE (k:aN w W):jh bs w W:=⟨k.size,λ_ h=>ad1 k h⟩
def mP.kpc (h:mP w w1 base el v v' k xs x):jh (bl v) w w1:=by
 rcases h.how with⟨h1,_⟩|⟨g,cap,rfl,rfl,hp⟩
 · exact jh.ofE h1
 · exact⟨by rw[dP.size hp];exact qa0 _,λE hb=>ab2 hp (λe=>E (vb.2 (by rw[e];rfl))) hb⟩
def mP.inner (h:mP w w1 base el v v' k xs x)(kp:jh (bl v') w1 W):jh (bl v) w W:=by
 refine⟨qa8 h.kpc.size kp.size,fun{b t cs} hn hb=>kp.blk (λhm=>?_) (h.kpc.blk hn hb)⟩
 have h2:=vb.1 hm
 rcases h.how with⟨_,h3⟩|⟨g,cap,rfl,rfl,_⟩
 · rw[h3]at h2;cases h2;have:=ar.lt hb;omega
 · exact hn (vb.2 h2)
def mP.back (h:mP w w1 base el v v' k xs x)(hw:w.ownsRow base el 1 v k xs)(h2:W.ownsRow base el 1 v' (k+1) (xs++[x]))(kp:jh (bl v') w1 W):W.ownsRow base el 1 v k xs:=by
 rcases h.how with⟨h1,h3⟩|⟨g,cap,rfl,rfl,_⟩
 · refine yO (ab h1 hw) kp (λg E hm=>?_)
   have:=vb.1 hm
   rw[h3]at this
   have:=(yQ hw E).2
   cases ‹some w.heap.size=some g›
   omega
 · exact PL h2 (by have:=hw.1;omega)
def mP.stab {k6:World->Prop}(h:mP w w1 base el v v' k xs x)(hw:w.ownsRow base el 1 v k xs)(hs:j4 n0 k6)(hb:n0<=base)(hj:k6 w):k6 w1:=by
 rcases h.how with⟨h1,_⟩|⟨g,cap,rfl,rfl,hp⟩
 · exact hs.ext h1 hj
 · exact hs.put hp (qa8 hb (yQ hw Z).1) hj
end
def Rt (P:Program)(gf:Nat)(lb:List Value)(Pa:Nat->Value->World->Prop)(bs:List Nat)(M:Nat)(w:World):Prop:=
 ∀ (l:Nat) (k6 Jx:Nat->World->Prop) (W:World),Below w.heap.size w W->(∀k,j4 W.heap.size (k6 k))->
  (∀k v W1,k<M->k6 k W1->Pa k v W1->YieldAt Fence.wide 7 P l #[v] W1 λe W'=>(e=.returned (.bool true)/\k6 (k+1) W'/\jh bs W1 W')\/(e=.returned (.bool false)/\Jx (k+1) W'))->
  k6 0 W->CallsIn Fence.wide 8 P gf (#[.func (.yield l) #[] #[]]++lb.toArray) W λe W'=>(∃v,e=.returned v)/\(k6 M W'\/∃k,Jx k W')
def Zw (bs:List Nat)(k4:Nat->World->Prop)(Ix:Code->Nat->World->Prop)(k:Nat)(W:World):Exit->Act->World->Prop
 | .normal,_,W'=>KeepsOthers W W'/\jh bs W W'/\k4 k W'
 | .ret,_,W'=>KeepsOthers W W'/\Ix .ret k W'
 | .exit id,_,W'=>KeepsOthers W W'/\Ix (.exit id) k W'
 |_,_,_=>False
def Bh {e:Nat->Value}{Q:Exit->Act->World->Prop}{Pa:Nat->Value->World->Prop}{lb:List Value}{g:Operand}{assign body:Code}(hg:ev N e g=.func (.func gf) #[] lb.toArray)(eg:Enters P gf)(hit:Rt P gf lb Pa bs M w)(k4:Nat->World->Prop)(Ix:Code->Nat->World->Prop)(hI:∀k,j4 w.heap.size (k4 k))(hIx:∀c k A b r r',w.heap.size<=b->A.heap[b]?=some (.loop r)->Ix c k A->Ix c k (A.putObj b (.loop r')))(h0:k4 0 w)(A:(Nat->Value)->Nat->(Nat->Value)->World->Prop)(hA:∀k e' W b r r',w.heap.size<=b->W.heap[b]?=some (.loop r)->A e k e' W->A e k e' (W.putObj b (.loop r')))(hassign:∀l k v W K,k<M->k4 k W->Pa k v W->(∀e' W',aN W W'->A e k e' W'->K (act N e' []) W')->assign.wpIn (Fw (some l)) 7 P (Exit.then K (λ_ _ _=>False)) (act N (upd e p v) []) W)(hbody:∀l k e' W,k<M->A e k e' W->body.wpIn (Fw (some l)) 7 P (Zw bs k4 Ix (k+1) W) (act N e' []) W)(hdone:∀D W,w.heap.size<=D->k4 M W->ll W D->Q .normal (act N e (⟨.collected D,#[]⟩::ds)) W)(hstop:∀D c k W,w.heap.size<=D->Ix c k W->ll W D->c.wpIn (Fw none) 9 P Q (act N e (⟨.collected D,#[]⟩::ds)) W):
 (Code.rangeFunc g #[p] assign body).wpIn (Fw none) 9 P Q (act N e ds) w:=by
 refine wpIn_rangeFunc (F:=Fence.wide) (n:=9) λfn Ab=>?_
 obtain⟨R,hR⟩:∃R:LoopState->Option Code->Loop,R=λAp A1=>{state:=Ap,pending:=A1,fn,tmps:=(act N e ds).tmps,params:=#[p],assign,body,defers:=w.heap.size}:=⟨_,rfl⟩
 obtain⟨V,hV⟩:∃V,(w.alloc (.deferred (some []))).alloc (.loop (R .ready none))=V:=⟨_,rfl⟩
 have hB:vW V w.heap.size (R .ready none):=by
  refine⟨?_,?_⟩ <;>rw[<-hV]
  · have h:=World.alloc_heap_new (w.alloc (.deferred (some []))) (.loop (R .ready none));rwa [World.size_alloc]at h
  · exact(Below.heap_alloc _ _ _ zd).trans (World.alloc_heap_new w _)
 have Ao:w.heap.size+1<V.heap.size:=by rw[<-hV];simp
 have O:Below w.heap.size w V:=by rw[<-hV];exact((Below.refl _ w).alloc (qa0 _) _).alloc zd _
 have hI0:k4 0 V:=(hI 0).ext O h0
 refine⟨w.heap.size+1,[⟨.collected w.heap.size,#[]⟩],V,⟨.fn (.func gf) lb.toArray,#[.func (.yield (w.heap.size+1)) #[] #[]]⟩,V,gf,#[.func (.yield (w.heap.size+1)) #[] #[]]++lb.toArray,V,?_,?_,?_,?_,λ_=>by omega,?_⟩
 · rw[<-hV,hR];exact run_enterLoop_outer _ _ _ _ _
 · have hg':(act N e ds).eval g=.func (.func gf) #[] lb.toArray:=by rw[cS];exact hg
   simp only[resolve,hg'];simp[go_sem]
 · intro As _;trivial
 · simp[invoke,go_sem];exact eg _ _
 refine(hit (w.heap.size+1) (λk W=>k4 k W/\vW W w.heap.size (R .ready none)) (λk W=>∃c,Ix c k W/\vW W w.heap.size (R .done (some c))) V O
  (λk=>((hI k).mono U).and (vW.stab Ao)) ?_ ⟨hI0,hB⟩).mono ?_
 ·
  rintro k v W hkM ⟨hi,hk⟩ Am
  have hy:=run_yield (P:=P) (args:=#[v]) hk.1 (by rw[hR];simp)
  rw[hR]at hy
  refine⟨fn,_,assign,body,hy,roundIn_of_wpIn Ab ?_⟩
  have hfold:(⟨(#[p].zip #[v]).foldl (λt (p,v)=>t.setIfInBounds p v) (act N e ds).tmps,[]⟩:Act)=act N (upd e p v) []:=by
   have h:=oU N [p] [v] e
   have h2:act N (upd e p v) []=⟨(act N (ku e [p] [v]) []).tmps,[]⟩:=rfl
   rw[h2,<-h]
   simp only[List.zip_toArray,List.foldl_toArray]
   rfl
  rw[hfold]
  refine hassign (w.heap.size+1) k v W _ hkM hi Am λe' W' hx A2=>?_
  have hk:vW W' w.heap.size (R .ready none):=⟨hx.heap hk.1,hx.heap hk.2⟩
  refine⟨_,run_beginRound hk.1 (by rw[hR]),?_⟩
  have A0:=hk.put {R .ready none with state:=.busy}
  refine wpIn_mono (hbody (w.heap.size+1) k e' _ hkM (hA k e' _ _ _ _ U hk.1 A2)) ?_
  have Aq:jh bs W W':=⟨hx.size,λ_ h=>h.ext hx⟩
  have H:∀(j:Option Code) (W3:World),KeepsOthers (W'.putObj (w.heap.size+1) (.loop {R .ready none with state:=.busy})) W3->
   vW W3 w.heap.size {R .ready none with state:=.busy}/\(Instr.endRound (w.heap.size+1) j).run P W3=.ok (.bool j.isNone) (W3.putObj (w.heap.size+1) (.loop (R (if j.isNone then .ready else .done) j))):=λj W3 h3=>by
   have h4:=A0.kept h3
   refine⟨h4,?_⟩
   have E:=run_endRound (P:=P) j h4.1
   rw[hR]at E ⊢
   exact E
  rintro x Ar W3 G
  cases x with
  | normal=>
    obtain⟨h1,Af,h3⟩:=G
    obtain⟨h4,E⟩:=H none W3 h1
    exact⟨_,_,E,.inl ⟨rfl,⟨(hI _).put (dp _ _ _) U h3,h4.put _⟩,Aq.trans (((jh.putObj hk.1).trans Af).trans (jh.putObj h4.1))⟩⟩
  | ret=>
    obtain⟨h1,h3⟩:=G
    obtain⟨h4,E⟩:=H (some .ret) W3 h1
    exact⟨_,_,E,.inr ⟨rfl,.ret,hIx _ _ _ _ _ _ U h4.1 h3,h4.put _⟩⟩
  | exit id=>
    obtain⟨h1,h3⟩:=G
    obtain⟨h4,E⟩:=H (some (.exit id)) W3 h1
    exact⟨_,_,E,.inr ⟨rfl,.exit id,hIx _ _ _ _ _ _ U h4.1 h3,h4.put _⟩⟩
  |goto t=>exact G.elim
  |panic c=>exact G.elim
  |outgrown=>exact G.elim
 · rintro x W2 ⟨⟨v,rfl⟩,⟨hi,hk⟩|⟨k,c,hi,hk⟩⟩
   · have h:=run_endLoop (P:=P) hk.1 (by rw[hR];simp)
     rw[hR]at h
     exact⟨none,_,h,hdone _ _ (qa0 _) ((hI M).put (dp _ _ _) U hi) (hk.put _).2⟩
   · have h:=run_endLoop (P:=P) hk.1 (by rw[hR];simp)
     rw[hR]at h
     exact⟨some c,_,h,hstop _ c k _ (qa0 _) (hIx c k _ _ _ _ U hk.1 hi) (hk.put _).2⟩
section
variable {r:Option Nat}{e:Nat->Value}{Q:Exit->Act->World->Prop}{K:Act->World->Prop}
variable {d ty:Nat}{pos:String}{af:Array Edge}{g:Option (Nat×Bool)}{v u:Value}{x y:Operand}{t el:TypeId}
def UN {z:Value}{k0:Nat}(hu:P.underlying t=some (.slice el))(hi:gw P el z 1 bytes)(hz:z.cells.size=1)(hx:ev N e x=v)(hown:w.ownsRow base el 1 v k0 xs)(hy:ev N e y=.slice (some ⟨b,0,none⟩) 1 1)(hr:Rw w lo (some ⟨b,0,none⟩) [u])(h1:u.oneCell'=true)(hk0:k0<=1000)(hby:bytes<=1000)(hbase:base<=w.heap.size)(hk:∀v' w',mP w w' base el v v' k0 xs u->K (act N (upd e d v') ds) w'):
 Oper.wpIn (Fw r) n P ⟨some d,.call {callee:=.builtin .append,args:=#[x,y],argTypes:=#[t,t]},ty,pos,af,g⟩ (act N e ds) w K Q:=by
 obtain⟨v',w',E,hA⟩:=L5 (P:=P) (t:=t) (ty:=ty) hu hi hz hown hr h1 hk0 hby hbase
 refine cW (v:=v') (w':=w') Z ?_ (by rw[ax];exact hk v' w' hA)
 simp[execOp,resolve,invoke,builtin,hx,hy,E]
end
def FK (w0:World)(base:Nat)(el:TypeId)(v:Value)(k:Nat)(xs:List Value)(x:Value)(s ts a ta:Nat)(ls:Nat->Bool)(e:Nat->Value)(w:World):Prop:=
 (ls a=false->aN w0 w/\(ls s=true->∃b,e ts=.slice (some ⟨b,0,none⟩) 1 1/\Rw w 0 (some ⟨b,0,none⟩) [x]))/\
 (ls a=true->∃w1 w2,aN w0 w1/\mP w1 w2 base el v (e ta) k xs x/\aN w2 w)
section
variable {L:List (Option (Nat×Value))}{ls:Nat->Bool}{e:Nat->Value}{w0 w':World}{s ts a ta d:Nat}{el:TypeId}{v v' x u:Value}
def FK.start:FK w0 base el v k xs x s ts a ta (λ_=>false) e w0.drew:=⟨λ_=>⟨ac3 w0,λh=>by cases h⟩,λh=>by cases h⟩
def XU (hl:lY L i=some (some (d,u)))(hX:FK w0 base el v k xs x s ts a ta ls e w)(h1:Nat.beq a i=false:=by rfl)(h2:Nat.beq s i=false:=by rfl)(h3:Nat.beq ts d=false:=by rfl)(h4:Nat.beq ta d=false:=by rfl):
 r9 N ds (FK w0 base el v k xs x s ts a ta) L ls e i (some d) .normal (act N (upd e d u) ds) w:=by
 refine⟨rfl,u,(ax ..).symm,(λ_ _ h=>by rw[hl]at h;cases h;rfl),λh=>?_,λh=>?_⟩
 · rw[e7 h1]at h
   refine⟨(hX.1 h).1,λhs=>?_⟩
   rw[e7 h2]at hs
   obtain⟨b,e1,e2⟩:=(hX.1 h).2 hs
   exact⟨b,by show upd e d u ts=_;rw[j2 h3];exact e1,e2⟩
 · rw[e7 h1]at h
   obtain⟨w1,E,p,q,r⟩:=hX.2 h
   exact⟨w1,E,p,by show mP w1 E base el v (upd e d u ta) k xs x;rw[j2 h4];exact q,r⟩
def Zx (hl:lY L s=some none)(hX:FK w0 base el v k xs x s ts a ta ls e w)(kx:aN w w')(hr:Rw w' 0 (some ⟨b,0,none⟩) [x])(h1:Nat.beq a s=false:=by rfl)(h4:Nat.beq ta ts=false:=by rfl):
 r9 N ds (FK w0 base el v k xs x s ts a ta) L ls e s (some ts) .normal (act N (upd e ts (.slice (some ⟨b,0,none⟩) 1 1)) ds) w':=by
 refine⟨rfl,_,(ax ..).symm,(λ_ _ h=>by rw[hl]at h;cases h),λh=>?_,λh=>?_⟩
 · rw[e7 h1]at h
   exact⟨(hX.1 h).1.trans kx,λ_=>⟨b,by show upd e ts _ ts=_;rw[kt],hr⟩⟩
 · rw[e7 h1]at h
   obtain⟨w1,E,p,q,r⟩:=hX.2 h
   exact⟨w1,E,p,by show mP w1 E base el v (upd e ts _ ta) k xs x;rw[j2 h4];exact q,r.trans kx⟩
def Zy (hl:lY L a=some none)(hX:FK w0 base el v k xs x s ts a ta ls e w)(hn:ls a=false)(hA:mP w w' base el v v' k xs x):
 r9 N ds (FK w0 base el v k xs x s ts a ta) L ls e a (some ta) .normal (act N (upd e ta v') ds) w':=by
 refine⟨rfl,_,(ax ..).symm,(λ_ _ h=>by rw[hl]at h;cases h),λh=>?_,λ_=>?_⟩
 · rw[FI]at h;cases h
 · exact⟨w,w',(hX.1 hn).1,by show mP w w' base el v (upd e ta v' ta) k xs x;rw[kt];exact hA,aa0 _⟩
end
def jh.refl' (W:World):jh bs W W:=⟨qa0 _,λ_ h=>h⟩
def jh.ofExt (k:aN W W'):jh bs W W':=jh.ofE k
def HX (n:Nat):Nat->Nat->List Nat->List (List Nat)
 |0,_,_=>[]
 |f+1,i,l=>(if l.length+1=n then[l++[i]]else HX n f (i+1) (l++[i]))++HX n f (i+1) l
def ze (n m i:Nat)(l:List Nat):List (List Nat):=if l.length=n then[l]else HX n (m-i) i l
def L6 {m:Nat}{l:List Nat}(h:i<m):HX n (m-i) i l=ze n m (i+1) (l++[i])++HX n (m-(i+1)) (i+1) l:=by
 rw[show m-i=(m-(i+1))+1 by omega]
 unfold ze
 rw[List.length_append,List.length_singleton]
 rfl
def PM {m:Nat}{l:List Nat}(h:¬i<m):HX n (m-i) i l=[]:=by rw[show m-i=0 by omega];rfl
def L8 (P:Program)(gf:Nat)(lb:List Value)(box:World->Prop)(base:Nat)(el:TypeId)(k6 Jx:Nat->World->Prop)(S:Nat->List Nat)(M n m first:Nat):Prop:=
 ∀ (A:Option Addr) (l:List Nat) (cp k:Nat) (W:World),l.length<=first->box W->W.ownsRow base el 1 (.slice A l.length cp) l.length (ints l)->base<=W.heap.size->k6 k W->k+(ze n m first l).length<=M->(∀j,j<(ze n m first l).length->S (k+j)=(ze n m first l).getD j [])->
  Calls P gf (([Value.slice A l.length cp,Value.int .i64 ((first:Nat):Int)]:List Value)++lb).toArray W (kv λv W'=>(v=.bool true/\k6 (k+(ze n m first l).length) W'/\W'.ownsRow base el 1 (.slice A l.length cp) l.length (ints l)/\jh (bl (.slice A l.length cp)) W W')\/(v=.bool false/\∃k,Jx k W'))
end
end Go.Proofs.YtlmihmlnpjkblaaGreatDoor
