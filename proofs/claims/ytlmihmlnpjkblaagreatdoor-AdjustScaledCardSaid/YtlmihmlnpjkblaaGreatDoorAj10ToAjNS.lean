/- Part of the proof of a statement about an adjustment. -/
import Derived.Test.YtlmihmlnpjkblaaGreatDoorRat4ToMapLS
set_option linter.all false
namespace Go.Proofs.YtlmihmlnpjkblaaGreatDoor
variable {la lb c d e f cn cd l6 l7 u6 u7 c2 d2 e2 f2 j:Int}{ds:List Deferred}{rl bs ps:List Nat}{xs:List Value}{n cp k D pl b1 b2 b C ny CY nb CB b3 CR lo5 gf N M g bytes base lo p i:Nat}{A B Y qr:Option Addr}{P:Program}{w W W':World}
section
set_option maxRecDepth 100000
open Go Go.Eng Go.RowKit Tryz
attribute [local irreducible] wpListIn Code.wpIn Oper.wpIn Exit.then Exit.inBlock Exit.noGoto
set_option maxHeartbeats 40000000
def gt :aO w w:=aa3 _
def L6 {l m:List UInt8}{fr:Int}:
 CL 46 #[.agg #[.slice A n cp,.slice B k D,S l,S m,.int .i64 fr],.int .i64 0] w (aH w λv w'=>v=.agg #[.slice A n cp,.slice B k D,S l,S m,.int .i64 fr]):=by
 refine aD func46 Z (I ?_);refine bx (λO Af G=>?_);have E:=Af.2;refine al cM (λ_ A2 H=>?_);have⟨G,E⟩:=bo A2.2 G E;refine I ?_;refine cl fp df ?_;rintro _ _ A1 rfl;have⟨G,H,E⟩:=ca A1.2 G H E;refine I ?_;(try refine aa (aN (cs:=[.slice A n cp,.slice B k D,S l,S m,.int .i64 fr]) (b:=w.heap.size) (o:=0) jK Z cH Z (aa0 G (i:=0) Z) ?_));refine aa (aZ (b:=O.heap.size) (o:=0) (vs:=[.slice A n cp,.slice B k D,S l,S m,.int .i64 fr]) cH Z Z Nd H (qa3 Z) (λ_ A0 Ab=>?_));have G:=pb A0 G;have E:=bi A0 E;refine I ?_;refine aW (v:=.agg #[.slice A n cp,.slice B k D,S l,S m,.int .i64 fr]) (ci  rfl ?_) E Z;refine ai (t:=4) (cs:=[.slice A n cp,.slice B k D,S l,S m,.int .i64 fr]) (b:=O.heap.size) (o:=0) jK Z cH ?_ ?_;exact Z;exact aa0 Ab (i:=0) Z
def vt {l m:List UInt8}{fr:Int}{a b:Int}(hb1:ar w b1 40 #[.slice A n cp,.slice B k D,S l,S m,.int .i64 fr])(hb2:ar w b2 86 #[S ((qR la lb).1),S ((qR la lb).2),.int .i64 pl])(hCh:(∀W,aO w W->CL 105 #[QV a b,.int .i64 fr,.int .i64 pl] W (aH W λv _=>v=.tuple #[IV c d e f,.int .i64 0]))):
 CL 103 #[QV a b,pT b1,pT b2] w (aH w λv w'=>v=IV c d e f):=by
 have Ap:=bt hb1;have Ao:=bt hb2;refine aD func103 Z (I ?_);refine bx (λA2 O G=>?_);have⟨hb1,hb2⟩:=dN O.2 hb1 hb2;have E:=O.2;refine al Vc (λ_ Ab H=>?_);have⟨hb1,hb2,G,E⟩:=fw Ab.2 hb1 hb2 G E;refine I ?_;refine cl Sq (hCh _ E) ?_;rintro _ _ A1 rfl;have⟨hb1,hb2,G,H,E⟩:=kC A1.2 hb1 hb2 G H E;refine I ?_;refine cl Ta K8 ?_;rintro _ _ Am rfl;have⟨hb1,hb2,G,H,E⟩:=kC Am.2 hb1 hb2 G H E;refine SA H (λ_ A0 Af=>?_);have⟨hb1,hb2,G⟩:=qm A0 hb1 hb2 G;have E:=bi A0 E;refine I ?_;refine aW (v:=IV c d e f) (ci  rfl ?_) E Z;refine ai (t:=4) (cs:=[S (qR c d).1,S (qR c d).2,S (qR e f).1,S (qR e f).2]) (b:=A2.heap.size) (o:=0) fL Z ef ?_ ?_;exact Z;exact aa0 Af (i:=0) Z
def HB {fr:Int}{c d e f:Int}(hfr:¬fr=0)(hDn:∀W,Tb W->CL 100 #[QV cn cd,.int .i64 6] W (aH W λv _=>v=.tuple #[QV l6 l7,.int .i64 0]))(hUp:∀W,Tb W->CL 101 #[QV cn cd,.int .i64 6] W (aH W λv _=>v=.tuple #[QV u6 u7,.int .i64 0]))(ql:Q9 la lb)(qhi:Q9 u6 u7)(hfh:¬0<aQ (u6*1) (100*u7))(qc2:Q9 c2 d2)(hCh:(∀W,aO w W->CL 105 #[QV u6 u7,.int .i64 fr,.int .i64 pl] W (aH W λv _=>v=.tuple #[IV c2 d2 e2 f2,.int .i64 0])))(hA:0<=aQ (c2*lb) (la*d2))(ht:Tb w):
 CL 45 #[.agg #[S (qR la lb).1,S (qR la lb).2,.int .i64 pl],.agg #[.slice A n cp,.slice B k D,S (qR cn cd).1,S (qR cn cd).2,.int .i64 fr]] w (aH w λv w'=>v=.int .i64 1):=by
 refine aD func45 Z (I ?_);refine bx (λA1 a6 Av=>?_);have O:=a6.2;refine bx (λAb Q0 Cr=>?_);have⟨Av,O⟩:=bo Q0.2 Av O;refine I ?_;refine Hz o7 14 [5,6,12,13,14,15,16,17,18,19,20,21,22,23] [some (12,.pointer (some ⟨A1.heap.size,2,none⟩)),some (13,QV cn cd),some (14,.tuple #[QV l6 l7,.int .i64 0]),some (15,QV l6 l7),some (16,.int .i64 0),some (17,QV l6 l7),some (18,.pointer (some ⟨A1.heap.size,2,none⟩)),some (19,QV cn cd),some (20,.tuple #[QV u6 u7,.int .i64 0]),some (21,QV u6 u7),some (22,.int .i64 0),some (23,QV u6 u7),none,none] (XK (Eng.XH (λW=>aO Ab W) Ab.heap.size 12 5 33 #[S [],S []]) Ab.heap.size 12 5 13 6 33 #[S [],S []]) (XK.start (XH.start (ac3 Ab))) Hx Hx Hx ?_ ?_;refine⟨λNo _ _ P0 _ E0 _ _ _=>?_,?_⟩;obtain⟨No,rfl⟩:=b6 P0;refine I ?_;exact tj (jC Z E0.1 E0.1.1 gt) E0 (λb _ h=>h);refine⟨λL4 _ _ a0 La Ao _ _ _=>?_,?_⟩;obtain⟨L4,rfl⟩:=b6 a0;have c9:=cV (La 0 _ _ Z Z);have bp:=(be Ao.1.1 Cr);refine I ?_;exact tj (jC Z Ao.1 Ao.1.1 gt) Ao (λb _ h=>h);refine⟨λL1 _ _ L2 bZ Ap _ _ _=>?_,?_⟩;obtain⟨L1,rfl⟩:=b6 L2;have W3:=cV (bZ 1 _ _ Z Z);have H4:=xt O Ap.1.1;refine cl Cj (hDn _ (ht.ext H4)) ?_ (av W3 (av Z Z));rintro _ _ As rfl;refine I ?_
 exact tj (jC Z Ap.1 (Ap.1.1.trans As.2) As.2) Ap (λb _ h=>be As.2 h);refine⟨λK2 _ _ ad Wa Ax _ _ _=>?_,?_⟩;obtain⟨K2,rfl⟩:=b6 ad;have cc:=cV (Wa 2 _ _ Z Z);refine I ?_;exact tj (jC Z Ax.1 Ax.1.1 gt) Ax (λb _ h=>h);refine⟨λS9 _ _ VW K3 B1 _ _ _=>?_,?_⟩;obtain⟨S9,rfl⟩:=b6 VW;have bq:=cV (K3 2 _ _ Z Z);refine I ?_;exact tj (jC Z B1.1 B1.1.1 gt) B1 (λb _ h=>h);refine⟨λW1 _ _ X2 GC Aw _ _ _=>?_,?_⟩;obtain⟨W1,rfl⟩:=b6 X2;have W2:=cV (GC 3 _ _ Z Z);have KY:=cV (GC 4 _ _ Z Z);refine cl qG k7 ?_ (av W2 (av KY Z));rintro _ _ C0 rfl;refine I ?_;exact tj (jC Z Aw.1 (Aw.1.1.trans C0.2) C0.2) Aw (λb _ h=>be C0.2 h);refine⟨λa3 _ _ WV _ D2 _ _ _=>?_,?_⟩;obtain⟨a3,rfl⟩:=b6 WV;refine I ?_;exact tj (jC Z D2.1 D2.1.1 gt) D2 (λb _ h=>h);refine⟨λT3 _ _ a8 P2 Af _ _ _=>?_,?_⟩;obtain⟨T3,rfl⟩:=b6 a8;have cf:=cV (P2 6 _ _ Z Z);have ch:=(be Af.1.1 Cr);refine I ?_;exact tj (jC Z Af.1 Af.1.1 gt) Af (λb _ h=>h);refine⟨λLi _ _ ac KC A2 _ _ _=>?_,?_⟩;obtain⟨Li,rfl⟩:=b6 ac;have H2:=cV (KC 7 _ _ Z Z);have T2:=xt O A2.1.1;refine cl Ck (hUp _ (ht.ext T2)) ?_ (av H2 (av Z Z));rintro _ _ E4 rfl;refine I ?_
 exact tj (jC Z A2.1 (A2.1.1.trans E4.2) E4.2) A2 (λb _ h=>be E4.2 h);refine⟨λVm _ _ W0 Kp CG _ _ _=>?_,?_⟩;obtain⟨Vm,rfl⟩:=b6 W0;have cb:=cV (Kp 8 _ _ Z Z);refine I ?_;exact tj (jC Z CG.1 CG.1.1 gt) CG (λb _ h=>h);refine⟨λRm _ _ a4 X0 B0 _ _ _=>?_,?_⟩;obtain⟨Rm,rfl⟩:=b6 a4;have cm:=cV (X0 8 _ _ Z Z);refine I ?_;exact tj (jC Z B0.1 B0.1.1 gt) B0 (λb _ h=>h);refine⟨λa2 _ _ H3 EW nm _ _ _=>?_,?_⟩;obtain⟨a2,rfl⟩:=b6 H3;have Lj:=cV (EW 9 _ _ Z Z);have Lk:=cV (EW 10 _ _ Z Z);refine cl qG k7 ?_ (av Lj (av Lk Z));rintro _ _ E1 rfl;refine I ?_;exact tj (jC Z nm.1 (nm.1.1.trans E1.2) E1.2) nm (λb _ h=>be E1.2 h);refine⟨λa9 _ _ L3 _ Am _ _ _=>?_,?_⟩;obtain⟨a9,rfl⟩:=b6 L3;have bv:=xt O Am.1.1;refine al aU (λ_ Ay an=>I ?_);exact X1 Z (XH.new Am.1 (Am.1.1.trans Ay.2) Ay.2 an) Am (λb _ h=>be Ay.2 h);refine⟨λNe _ _ b0 _ od _ _ _=>?_,?_⟩;obtain⟨Ne,rfl⟩:=b6 b0;have bb:=xt O od.1.1;refine al aU (λ_ E5 P1=>I ?_);exact X3 Z (XH.keep od.1 (od.1.1.trans E5.2) E5.2) od.1.2.1 P1 (XH.ne od.1);exact trivial;intro B2 _ _ D1 bW E6 A0;obtain⟨B2,rfl⟩:=b6 bW;have H:=(be A0.1.1 Av);have G:=(be A0.1.1 Cr);have E:=xt O A0.1.1
 obtain⟨a5,Aq,_,Ix⟩:=A0.1.2.2 (D1 12 Z);obtain⟨KM,Az,_,Ar,G0⟩:=A0.2 (D1 13 Z);have G0:=L0 Aq (G0 (D1 12 Z));have Az:=cV Az;have Aq:=cV Aq;have ce:B2 5=pT a5:=(Aq);have bd:=cV (E6 5 _ _ Z Z);refine SA Ix (λ_ FR E9=>?_);have⟨H,G,Ar⟩:=qm FR H G Ar;have E:=bi FR E;have cT:B2 6=pT KM:=(Az);have co:=cV (E6 11 _ _ Z Z);refine SA Ar (λ_ ES _=>?_);have⟨H,G,E9⟩:=qm ES H G E9;have E:=bi ES E;refine I ?_;refine aa (aC (vf:=[]) (vc:=[pT A1.heap.size,pT w.heap.size]) Z (av Z (av Z Z)) ?_);refine I ?_;refine bQ 11 ?_;refine sf ?_;refine aX (V:=.bool false) (λ_ _ V2 _=>?_) ?_;refine aa (mg (vs:=[QV u6 u7]) (lb:=[]) Cs Z Z (nE (Y:=.bool false) (yW qhi (ht.ext (xt E V2))) (qb2 Value.bool (qa2 hfh))) ?_);rintro _ _ S0 rfl;refine I ?_;exact fs ⟨S0.2,rfl⟩;refine sf ?_;refine aX (V:=IV c2 d2 e2 f2) (λ_ _ E7 _=>?_) ?_;have⟨H,G⟩:=dN E7 H G;refine I ?_;refine aa (mg (vs:=[QV u6 u7]) (lb:=[pT A1.heap.size,pT w.heap.size]) Ct Z Z (vt G H (λW q=>hCh W (xt (xt E E7) q))) ?_);rintro _ _ ny rfl;refine I ?_;exact fs ⟨ny.2,rfl⟩;refine aA (λ_ _ _ _=>by refine I ?_;refine aa (xk Z ?_);refine I ?_;exact aE) ?_;refine sf ?_;intro _ _ N0 _;have E:=xt E N0.2
 (with_reducible refine iA Z ?_);refine I ?_;refine cl o6 (xi qc2 ql (ht.ext E)) ?_;rintro _ _ wr rfl;have E:=xt E wr.2;refine I ?_;exact am (t:=4) (v:=.int .i64 1) Z E Z Z
def HC {fr:Int}(hfr:¬fr=0)(hDn:∀W,Tb W->CL 100 #[QV cn cd,.int .i64 6] W (aH W λv _=>v=.tuple #[QV l6 l7,.int .i64 0]))(hUp:∀W,Tb W->CL 101 #[QV cn cd,.int .i64 6] W (aH W λv _=>v=.tuple #[QV u6 u7,.int .i64 0]))(ql:Q9 la lb)(qhi:Q9 u6 u7)(hfh:¬0<aQ (u6*1) (100*u7))(qc2:Q9 c2 d2)(hCh:(∀W,aO w W->CL 105 #[QV u6 u7,.int .i64 fr,.int .i64 pl] W (aH W λv _=>v=.tuple #[IV c2 d2 e2 f2,.int .i64 0])))(hA:¬0<=aQ (c2*lb) (la*d2))(qlo:Q9 l6 l7)(hfl:¬0<aQ (l6*1) (100*l7))(qe:Q9 e f)(hCl:(∀W,aO w W->CL 105 #[QV l6 l7,.int .i64 fr,.int .i64 pl] W (aH W λv _=>v=.tuple #[IV c d e f,.int .i64 0])))(hR:aQ (e*lb) (la*f)<0)(ht:Tb w):
 CL 45 #[.agg #[S (qR la lb).1,S (qR la lb).2,.int .i64 pl],.agg #[.slice A n cp,.slice B k D,S (qR cn cd).1,S (qR cn cd).2,.int .i64 fr]] w (aH w λv w'=>v=.int .i64 2):=by
 refine aD func45 Z (I ?_);refine bx (λA1 a2 B0=>?_);have O:=a2.2;refine bx (λAp b0 D1=>?_);have⟨B0,O⟩:=bo b0.2 B0 O;refine I ?_;refine Hz o7 14 [5,6,12,13,14,15,16,17,18,19,20,21,22,23] [some (12,.pointer (some ⟨A1.heap.size,2,none⟩)),some (13,QV cn cd),some (14,.tuple #[QV l6 l7,.int .i64 0]),some (15,QV l6 l7),some (16,.int .i64 0),some (17,QV l6 l7),some (18,.pointer (some ⟨A1.heap.size,2,none⟩)),some (19,QV cn cd),some (20,.tuple #[QV u6 u7,.int .i64 0]),some (21,QV u6 u7),some (22,.int .i64 0),some (23,QV u6 u7),none,none] (XK (Eng.XH (λW=>aO Ap W) Ap.heap.size 12 5 33 #[S [],S []]) Ap.heap.size 12 5 13 6 33 #[S [],S []]) (XK.start (XH.start (ac3 Ap))) Hx Hx Hx ?_ ?_;refine⟨λWV _ _ L2 _ B2 _ _ _=>?_,?_⟩;obtain⟨WV,rfl⟩:=b6 L2;refine I ?_;exact tj (jC Z B2.1 B2.1.1 gt) B2 (λb _ h=>h);refine⟨λa6 _ _ bb W3 Af _ _ _=>?_,?_⟩;obtain⟨a6,rfl⟩:=b6 bb;have ch:=cV (W3 0 _ _ Z Z);have co:=(be Af.1.1 D1);refine I ?_;exact tj (jC Z Af.1 Af.1.1 gt) Af (λb _ h=>h);refine⟨λa0 _ _ Wa Lj As _ _ _=>?_,?_⟩;obtain⟨a0,rfl⟩:=b6 Wa;have Kp:=cV (Lj 1 _ _ Z Z);have Li:=xt O As.1.1;refine cl Cj (hDn _ (ht.ext Li)) ?_ (av Kp (av Z Z));rintro _ _ Ay rfl;refine I ?_
 exact tj (jC Z As.1 (As.1.1.trans Ay.2) Ay.2) As (λb _ h=>be Ay.2 h);refine⟨λH4 _ _ K2 X0 Cr _ _ _=>?_,?_⟩;obtain⟨H4,rfl⟩:=b6 K2;have cT:=cV (X0 2 _ _ Z Z);refine I ?_;exact tj (jC Z Cr.1 Cr.1.1 gt) Cr (λb _ h=>h);refine⟨λP1 _ _ bd W1 E6 _ _ _=>?_,?_⟩;obtain⟨P1,rfl⟩:=b6 bd;have ct:=cV (W1 2 _ _ Z Z);refine I ?_;exact tj (jC Z E6.1 E6.1.1 gt) E6 (λb _ h=>h);refine⟨λan _ _ S0 GC B1 _ _ _=>?_,?_⟩;obtain⟨an,rfl⟩:=b6 S0;have bW:=cV (GC 3 _ _ Z Z);have N0:=cV (GC 4 _ _ Z Z);refine cl qG k7 ?_ (av bW (av N0 Z));rintro _ _ CG rfl;refine I ?_;exact tj (jC Z B1.1 (B1.1.1.trans CG.2) CG.2) B1 (λb _ h=>be CG.2 h);refine⟨λa4 _ _ No _ Aw _ _ _=>?_,?_⟩;obtain⟨a4,rfl⟩:=b6 No;refine I ?_;exact tj (jC Z Aw.1 Aw.1.1 gt) Aw (λb _ h=>h);refine⟨λbZ _ _ X2 V2 Ar _ _ _=>?_,?_⟩;obtain⟨bZ,rfl⟩:=b6 X2;have cm:=cV (V2 6 _ _ Z Z);have c9:=(be Ar.1.1 D1);refine I ?_;exact tj (jC Z Ar.1 Ar.1.1 gt) Ar (λb _ h=>h);refine⟨λbp _ _ ad VW Am _ _ _=>?_,?_⟩;obtain⟨bp,rfl⟩:=b6 ad;have Q0:=cV (VW 7 _ _ Z Z);have Ne:=xt O Am.1.1;refine cl Ck (hUp _ (ht.ext Ne)) ?_ (av Q0 (av Z Z));rintro _ _ E0 rfl;refine I ?_
 exact tj (jC Z Am.1 (Am.1.1.trans E0.2) E0.2) Am (λb _ h=>be E0.2 h);refine⟨λT3 _ _ H3 L1 Ax _ _ _=>?_,?_⟩;obtain⟨T3,rfl⟩:=b6 H3;have cq:=cV (L1 8 _ _ Z Z);refine I ?_;exact tj (jC Z Ax.1 Ax.1.1 gt) Ax (λb _ h=>h);refine⟨λRm _ _ Ix Vm E1 _ _ _=>?_,?_⟩;obtain⟨Rm,rfl⟩:=b6 Ix;have ce:=cV (Vm 8 _ _ Z Z);refine I ?_;exact tj (jC Z E1.1 E1.1.1 gt) E1 (λb _ h=>h);refine⟨λLa _ _ K3 H2 nm _ _ _=>?_,?_⟩;obtain⟨La,rfl⟩:=b6 K3;have bq:=cV (H2 9 _ _ Z Z);have KC:=cV (H2 10 _ _ Z Z);refine cl qG k7 ?_ (av bq (av KC Z));rintro _ _ D2 rfl;refine I ?_;exact tj (jC Z nm.1 (nm.1.1.trans D2.2) D2.2) nm (λb _ h=>be D2.2 h);refine⟨λL3 _ _ P2 _ Aq _ _ _=>?_,?_⟩;obtain⟨L3,rfl⟩:=b6 P2;have cf:=xt O Aq.1.1;refine al aU (λ_ Az ac=>I ?_);exact X1 Z (XH.new Aq.1 (Aq.1.1.trans Az.2) Az.2 ac) Aq (λb _ h=>be Az.2 h);refine⟨λP0 _ _ at4 _ A2 _ _ _=>?_,?_⟩;obtain⟨P0,rfl⟩:=b6 at4;have cv:=xt O A2.1.1;refine al aU (λ_ G0 a5=>I ?_);exact X3 Z (XH.keep A2.1 (A2.1.1.trans G0.2) G0.2) A2.1.2.1 a5 (XH.ne A2.1);exact trivial;intro C0 _ _ Av T2 ES Ab;obtain⟨C0,rfl⟩:=b6 T2;have H:=(be Ab.1.1 B0);have G:=(be Ab.1.1 D1);have E:=xt O Ab.1.1
 obtain⟨a3,Ao,_,KY⟩:=Ab.1.2.2 (Av 12 Z);obtain⟨L4,E5,_,E4,E7⟩:=Ab.2 (Av 13 Z);have E7:=L0 Ao (E7 (Av 12 Z));have E5:=cV E5;have Ao:=cV Ao;have cb:C0 5=pT a3:=(Ao);have cc:=cV (ES 5 _ _ Z Z);refine SA KY (λ_ FR A0=>?_);have⟨H,G,E4⟩:=qm FR H G E4;have E:=bi FR E;have cw:C0 6=pT L4:=(E5);have cr:=cV (ES 11 _ _ Z Z);refine SA E4 (λ_ E9 _=>?_);have⟨H,G,A0⟩:=qm E9 H G A0;have E:=bi E9 E;refine I ?_;refine aa (aC (vf:=[]) (vc:=[pT A1.heap.size,pT w.heap.size]) Z (av Z (av Z Z)) ?_);refine I ?_;refine bQ 11 ?_;refine sf ?_;refine aX (V:=.bool false) (λ_ _ Lk _=>?_) ?_;refine aa (mg (vs:=[QV u6 u7]) (lb:=[]) Cs Z Z (nE (Y:=.bool false) (yW qhi (ht.ext (xt E Lk))) (qb2 Value.bool (qa2 hfh))) ?_);rintro _ _ W0 rfl;refine I ?_;exact fs ⟨W0.2,rfl⟩;refine sf ?_;refine aX (V:=IV c2 d2 e2 f2) (λ_ _ wr _=>?_) ?_;have⟨H,G⟩:=dN wr H G;refine I ?_;refine aa (mg (vs:=[QV u6 u7]) (lb:=[pT A1.heap.size,pT w.heap.size]) Ct Z Z (vt G H (λW q=>hCh W (xt (xt E wr) q))) ?_);rintro _ _ ny rfl;refine I ?_;exact fs ⟨ny.2,rfl⟩;refine aA (λ_ _ _ _=>by refine I ?_;refine aa (xk Z ?_);refine I ?_;exact aE) ?_;refine sf ?_;intro _ _ KM _;have⟨H,G,A0,E⟩:=fw KM.2 H G A0 E
 (with_reducible refine iA Z ?_);refine I ?_;refine cl o6 (xi qc2 ql (ht.ext E)) ?_;rintro _ _ a8 rfl;have⟨H,G,A0,E⟩:=fw a8.2 H G A0 E;refine I ?_;refine bQ 10 ?_;refine sf ?_;refine aX (V:=.bool false) (λ_ _ W2 _=>?_) ?_;refine aa (mg (vs:=[QV l6 l7]) (lb:=[]) Cs Z Z (nE (Y:=.bool false) (yW qlo (ht.ext (xt E W2))) (qb2 Value.bool (qa2 hfl))) ?_);rintro _ _ od rfl;refine I ?_;exact fs ⟨od.2,rfl⟩;refine sf ?_;refine aX (V:=IV c d e f) (λ_ _ EW _=>?_) ?_;have⟨H,G⟩:=dN EW H G;refine I ?_;refine aa (mg (vs:=[QV l6 l7]) (lb:=[pT A1.heap.size,pT w.heap.size]) Ct Z Z (vt G H (λW q=>hCl W (xt (xt E EW) q))) ?_);rintro _ _ a9 rfl;refine I ?_;exact fs ⟨a9.2,rfl⟩;refine aA (λ_ _ _ _=>by refine I ?_;refine aa (HA Z ?_);refine I ?_;exact aE) ?_;refine sf ?_;intro _ _ S9 _;have E:=xt E S9.2;(with_reducible refine iA Z ?_);refine I ?_;refine cl o6 (xi qe ql (ht.ext E)) ?_;rintro _ _ bv rfl;have E:=xt E bv.2;refine I ?_;exact am (t:=4) (v:=.int .i64 2) Z E Z Z
def HD {xs:List R}{C0:Rows}{fr:Int}(ql:Q9 la lb)(h12:pl<=12)(hl1:0<=aQ (la*1000000) (1*lb))(hl2:aQ (la*2) (1*lb)<=0)(hb1:ar w b1 33 #[S ((qR la lb).1),S ((qR la lb).2)])(hb2:ar w b2 3 #[.int .i64 pl])(hb3:ar w b3 30 #[.slice A n C,.slice Y ny CY,.slice B nb CB])(hFit:∀W,aO w W->CL 14 #[.agg #[.slice A n C,.slice Y ny CY,.slice B nb CB]] W (aH W λv w'=>∃u,v=.tuple #[u,.int .i64 0]/\oK W.heap.size w' u k xs C0 (qR cn cd) fr))(hJ:∀W A1 cp B1 D,aO w W->CL 45 #[.agg #[S ((qR la lb).1),S ((qR la lb).2),.int .i64 pl],.agg #[.slice A1 xs.length cp,.slice B1 k D,S ((qR cn cd).1),S ((qR cn cd).2),.int .i64 fr]] W (aH W λv _=>v=.int .i64 j))(ht:Tb w):
 CL 43 #[pT b1,pT b2,pT b3] w (aH w λv w'=>v=.int .i64 j):=by
 have FR:=bt hb1;have E7:=bt hb2;have H4:=bt hb3;refine aD func43 Z (I ?_);refine aa (bX (vs:=[(0,QV la lb),(1,.int .i64 pl)]) (cells:=#[S (qR la lb).1,S (qR la lb).2,.int .i64 pl]) (pl:=[(0,2),(2,1)]) Ef sB Hx Z Hx ?_);refine al sB (λ_ O nm=>?_);have⟨hb1,hb2,hb3⟩:=vZ O.2 hb1 hb2 hb3;have E:=O.2;refine aa (aZ (b:=w.heap.size) (o:=0) (vs:=[S (qR la lb).1,S (qR la lb).2,.int .i64 pl]) xE Z Z Nd nm (qa3 Z) (λ_ H G=>?_));have⟨hb1,hb2,hb3⟩:=qm H hb1 hb2 hb3;have E:=bi H E;refine I ?_;(try refine aa (aN (cs:=[S (qR la lb).1,S (qR la lb).2,.int .i64 pl]) (b:=w.heap.size) (o:=0) Ef Z xE Z (aa0 G (i:=0) Z) ?_));refine cl IN (xj ql h12 hl1 hl2 (ht.ext E)) ?_;rintro _ _ Av rfl;have⟨hb3,G,E⟩:=ca Av.2 hb3 G E;refine I ?_;refine bQ 6 ?_;refine aA (λ_ _ Ax _=>by have G:=be Ax G;(try refine aa (aN (cs:=[S (qR la lb).1,S (qR la lb).2,.int .i64 pl]) (b:=w.heap.size) (o:=0) Ef Z xE Z (aa0 G (i:=0) Z) ?_));refine I ?_;exact aE) ?_
 refine aA (λ_ _ E1 _=>by have hb3:=be E1 hb3;(try refine aa (aN (cs:=[.slice A n C,.slice Y ny CY,.slice B nb CB]) (b:=b3) (o:=0) de Z ba Z (aa0 hb3 (i:=0) Z) ?_));refine I ?_;exact aE) ?_;refine bY (fun(v:Value) (_:World)=>∃A1 cp B1 D,v=(.tuple #[.agg #[.slice A1 xs.length cp,.slice B1 k D,S (qR cn cd).1,S (qR cn cd).2,.int .i64 fr],.int .i64 0]:Value)) (λ_ _ E4 _=>?_) ?_;refine cl oh (hFit _ (xt E E4)) ?_;rintro _ _ A0 ⟨H2,rfl,E9,K2,ES,Ix,EW,rfl,H3,K3,GC,G0⟩;refine I ?_;exact fs ⟨A0.2,⟨_,_,_,_,rfl⟩⟩;refine bY (fun(v:Value) (_:World)=>∃A1 cp B1 D,v=(.agg #[.slice A1 xs.length cp,.slice B1 k D,S (qR cn cd).1,S (qR cn cd).2,.int .i64 fr]:Value)) (λD2 _ _ Ap=>?_) ?_;have Ay:∃A1 cp B1 D,D2 12=(.tuple #[.agg #[.slice A1 xs.length cp,.slice B1 k D,S (qR cn cd).1,S (qR cn cd).2,.int .i64 fr],.int .i64 0]:Value):=(Ap 2 12 Z Z);(with_reducible obtain⟨Af,od,B2,Ar,Ao⟩:=Ay);refine aa (cX (v:=.agg #[.slice Af xs.length od,.slice B2 k Ar,S (qR cn cd).1,S (qR cn cd).2,.int .i64 fr]) (by exact Ao) Z ?_);refine I ?_;exact fs ⟨aa3 _,⟨_,_,_,_,rfl⟩⟩
 refine aA (λE5 _ _ E6=>by have wr:∃A1 cp B1 D,E5 12=(.tuple #[.agg #[.slice A1 xs.length cp,.slice B1 k D,S (qR cn cd).1,S (qR cn cd).2,.int .i64 fr],.int .i64 0]:Value):=(E6 2 12 Z Z);(with_reducible obtain⟨_,_,_,_,Aq⟩:=wr);refine aa (cX (v:=.int .i64 0) (by exact Aq) Z ?_);refine I ?_;exact aE) ?_;refine bY (fun(v:Value) (_:World)=>∃A1 cp B1 D,v=(.agg #[.slice A1 xs.length cp,.slice B1 k D,S (qR cn cd).1,S (qR cn cd).2,.int .i64 fr]:Value)) (λB0 _ _ Ab=>?_) ?_;have Am:∃A1 cp B1 D,B0 13=(.agg #[.slice A1 xs.length cp,.slice B1 k D,S (qR cn cd).1,S (qR cn cd).2,.int .i64 fr]:Value):=(Ab 3 13 Z Z);(with_reducible obtain⟨_,_,_,_,A2⟩:=Am);refine cl SX L6 ?_ (av (by exact A2) (av Z Z));rintro _ _ E0 rfl;refine I ?_;exact fs ⟨E0.2,⟨_,_,_,_,rfl⟩⟩;refine sf ?_;intro Cr _ Aw Az;have E:=xt E Aw.2;have As:∃A1 cp B1 D,Cr 15=(.agg #[.slice A1 xs.length cp,.slice B1 k D,S (qR cn cd).1,S (qR cn cd).2,.int .i64 fr]:Value):=(Az 5 15 Z Z);(with_reducible obtain⟨_,_,_,_,D1⟩:=As);refine cl SV (hJ _ _ _ _ _ E) ?_ (av Z (av (by exact D1) Z));rintro _ _ CG rfl;have E:=xt E CG.2;refine I ?_;exact am (t:=3) (v:=.int .i64 j) Z E Z Z
def Bt {xs:List R}{C0:Rows}{fr:Int}(ql:Q9 la lb)(h12:pl<=12)(hl1:0<=aQ (la*1000000) (1*lb))(hl2:aQ (la*2) (1*lb)<=0)(hFit:∀W,aO w W->CL 14 #[.agg #[.slice A n C,.slice Y ny CY,.slice B nb CB]] W (aH W λv w'=>∃u,v=.tuple #[u,.int .i64 0]/\oK W.heap.size w' u k xs C0 (qR cn cd) fr))(hJ:∀W A1 cp B1 D,aO w W->CL 45 #[.agg #[S ((qR la lb).1),S ((qR la lb).2),.int .i64 pl],.agg #[.slice A1 xs.length cp,.slice B1 k D,S ((qR cn cd).1),S ((qR cn cd).2),.int .i64 fr]] W (aH W λv _=>v=.int .i64 j))(ht:Tb w):
 CL 19 #[.agg #[.slice A n C,.slice Y ny CY,.slice B nb CB],QV la lb,.int .i64 pl] w (aH w λv w'=>v=.tuple #[.int .i64 j,.int .i64 0]):=by
 refine aD func19 Z (I ?_);refine bx (λO Am G=>?_);have E:=Am.2;refine bx (λA0 A2 H=>?_);have⟨G,E⟩:=bo A2.2 G E;refine bx (λ_ Af Ao=>?_);have⟨G,H,E⟩:=ca Af.2 G H E;refine I ?_;refine aa (aC (vf:=[]) (vc:=[pT O.heap.size,pT A0.heap.size,pT w.heap.size]) Z Z ?_);refine cl SS (LA (gf:=43) (lb:=[pT O.heap.size,pT A0.heap.size,pT w.heap.size]) SU (λW q=>HD ql h12 hl1 hl2 (be q H) (be q Ao) (be q G) (λW2 q2=>hFit W2 (xt E (xt q q2))) (λW2 A1 cp B1 D q2=>hJ W2 A1 cp B1 D (xt E (xt q q2))) (ht.ext (xt E q)))) ?_;rintro _ _ Ab rfl;have E:=xt E Ab.2;refine I ?_;exact bA (t:=6) (u:=7) (v1:=.int .i64 j) (v2:=.int .i64 0) Z E Z Z Z
structure qj (L V:Rows)(ys:List R)(rl:List Nat)(KM KC:Rows)(KY:List R):Prop where
 lt:∀j,j<rl.length->rl.getD j 0<ys.length
 asc:∀j,j+1<rl.length->rl.getD j 0<rl.getD (j+1) 0
 le:rl.length<=8
 km:∀i,i<rl.length->KM i=L (rl.getD i 0)
 cl:∀i,i<rl.length->(KC i).length=rl.length
 ce:∀i,i<rl.length->∀k,k<rl.length->ao (KC i) k=ao (V (rl.getD i 0)) (rl.getD k 0)
 yl:KY.length=rl.length
 ye:∀i,i<rl.length->ao KY i=ao ys (rl.getD i 0)
structure ig (lo:Nat)(w:World)(A:Option Addr)(C:Nat)(Y:Option Addr)(CY:Nat)(B:Option Addr)(CB:Nat)(L V:Rows)(ys:List R):Prop where
 m:∃H,Mt w lo A ys.length H L
 y:Rw w lo Y (ag ys)
 v:∃G,Mt w lo B ys.length G V
 c:ys.length<=CB
section
variable {lo':Nat}{w':World}{L V:Rows}{ys:List R}
def ig.ext (k:aO w w')(h:ig lo w A C Y CY B CB L V ys):ig lo w' A C Y CY B CB L V ys:=by
 obtain⟨⟨b,c⟩,e,⟨g,i⟩,j⟩:=h
 exact⟨⟨b,c.ext k⟩,e.ext k,⟨g,i.ext k⟩,j⟩
def ig.put {x:Nat}(k:ee w w' x)(hx:x<lo)(h:ig lo w A C Y CY B CB L V ys):ig lo w' A C Y CY B CB L V ys:=by
 obtain⟨⟨b,c⟩,e,⟨g,i⟩,j⟩:=h
 exact⟨⟨b,Mt.put k hx c⟩,Rw.put k hx e,⟨g,Mt.put k hx i⟩,j⟩
def ig.mono (hl:lo'<=lo)(h:ig lo w A C Y CY B CB L V ys):ig lo' w A C Y CY B CB L V ys:=by
 obtain⟨⟨b,c⟩,e,⟨g,i⟩,j⟩:=h
 exact⟨⟨b,c.mono hl⟩,e.mono hl,⟨g,i.mono hl⟩,j⟩
def ig.des (h:ig lo w A C Y CY B CB L V ys):eH w A C Y CY B CB L V ys:=by
 obtain⟨⟨b,c⟩,e,⟨g,i⟩,j⟩:=h
 exact⟨⟨_,b,c⟩,⟨_,e⟩,⟨_,g,i⟩,j⟩
end
set_option maxHeartbeats 4000000 in
set_option maxRecDepth 100000 in
def L8 {L V:Rows}{ys:List R}(hD:eH w A C Y CY B CB L V ys)(ok:eN L V ys){KM KC:Rows}{KY:List R}(hR:Rw w lo5 qr (ints rl))(pe:qj L V ys rl KM KC KY)(okq:eN KM KC KY)(ht:Tb w):
 CL 53 #[.agg #[.slice A ys.length C,.slice Y ys.length CY,.slice B ys.length CB],.slice qr rl.length CR] w (aH w λv w'=>∃A C Y CY B CB,v=.agg #[.slice A KY.length C,.slice Y KY.length CY,.slice B KY.length CB]/\ig w.heap.size w' A C Y CY B CB KM KC KY):=by
 obtain⟨_,H,hM⟩:=hD.m;obtain⟨_,hy⟩:=hD.y;obtain⟨_,G,hV⟩:=hD.v;have hrl8:=pe.le;have hL8:=(gO ok.hv).2.2.2.1;have Yw:=VM.ok (gO ok.hv);have okV:=VM.ok (gO ok.hv3);have hVl:=ok.hVl;have hkl:=pe.yl;refine aD func53 Z (I ?_);refine bx (λcy aub cw=>?_);have ar6:=aub.2;refine al dW (λcv asr fx=>?_);have⟨cw,ar6⟩:=bo asr.2 cw ar6;refine I ?_;have auc:World.ownsRow cv cv.heap.size 28 1 (.slice none 0 0) 0 []:=bK;have aud:Wr cv cv.heap.size cv.heap.size 0 (λ_=>.nilIface) KM:=Wr.nil;have aue:World.ownsRow cv cv.heap.size 28 1 (.slice none 0 0) 0 []:=bK;have auf:Wr cv cv.heap.size cv.heap.size 0 (λ_=>.nilIface) KC:=Wr.nil;have aug:World.ownsRow cv cv.heap.size 33 2 (.slice none 0 0) 0 (ag []):=bK
 refine b7 [(5,7),(9,9),(12,97)] (λkk e W=>∃i9x:Nat,∃H2:Nat->Value,∃vm:Value,∃H3:Nat->Value,∃vc:Value,∃acY:List R,∃vy:Value,(rl.length-i9x=kk)/\(e 12=.int .i64 i9x)/\(i9x<=rl.length)/\(∀zz,zz<i9x->ay vm (H2 zz))/\(∀zz,zz<i9x->ay vm (H3 zz))/\(∀zz,zz<i9x->ay vc (H2 zz))/\(∀zz,zz<i9x->ay vc (H3 zz))/\(∀zz,zz<i9x->ay vy (H2 zz))/\(∀zz,zz<i9x->ay vy (H3 zz))/\(acY.length=i9x)/\(∀j,j<i9x->ao acY j=ao ys (rl.getD j 0))/\(cv.heap.size<=W.heap.size)/\((vm).ownBlock≠some w.heap.size)/\((vm).ownBlock≠some cy.heap.size)/\((vc).ownBlock≠some w.heap.size)/\((vc).ownBlock≠some cy.heap.size)/\((vy).ownBlock≠some w.heap.size)/\((vy).ownBlock≠some cy.heap.size)/\(ay vm vc)/\(ay vm vy)/\(ay vc vy)/\(aO w W)/\(ar W w.heap.size 82 #[.slice A ys.length C,.slice Y ys.length CY,.slice B ys.length CB])/\(W.ownsRow cv.heap.size 28 1 vm i9x ((List.range i9x).map H2))/\(Wr W cv.heap.size W.heap.size i9x H2 KM)/\(W.ownsRow cv.heap.size 28 1 vc i9x ((List.range i9x).map H3))/\(Wr W cv.heap.size W.heap.size i9x H3 KC)/\(W.ownsRow cv.heap.size 33 2 vy acY.length (ag acY))/\(ar W cy.heap.size 30 #[vm,vy,vc])) (rl.length-0) ⟨0,(λ_=>.nilIface),.slice none 0 0,(λ_=>.nilIface),.slice none 0 0,[],.slice none 0 0,rfl,rfl,(qa7 _),(λj hj=>by omega),(λj hj=>by omega),(λj hj=>by omega),(λj hj=>by omega),(λj hj=>by omega),(λj hj=>by omega),rfl,(λj hj=>by omega),(qa0 _),(λe=>by cases e),(λe=>by cases e),(λe=>by cases e),(λe=>by cases e),(λe=>by cases e),(λe=>by cases e),(aa5 ad2),(aa5 ad2),(aa5 ad2),ar6,cw,auc,aud,aue,auf,aug,fx⟩ ?_
 rintro _ _ wr ⟨i9x,H2,vm,H3,vc,acY,vy,rfl,aqj,hi9x,hap11,hap13,hap31,hap33,hapy1,hapy3,halY,hacY,a0t,ass,ast,auh,aui,asu,asv,asw,asx,asy,lq,cw,hout,hwr,hout3,hwr3,hyrow,fx⟩;by_cases hlo:i9x<rl.length;have hri:=pe.lt i9x hlo;have hLr:=(Yw (rl.getD i9x 0) hri).1;have hVr:=(okV (rl.getD i9x 0) hri).1;have hasc:¬i9x=0->rl.getD (i9x-1) 0<(rl.getD i9x 0):=λh=>by have:=pe.asc (i9x-1) U;rwa [show i9x-1+1=i9x by omega]at this
 have zq1q:=pX (hR.ext lq) (i:=(i9x)) U;refine I ?_;refine fM zq1q ?_;refine gx ?_;refine iV ?_;refine TJ [(17,39)] (λe W=>(aO w W)/\(wr.heap.size<=W.heap.size)/\(ar W w.heap.size 82 #[.slice A ys.length C,.slice Y ys.length CY,.slice B ys.length CB])/\(W.ownsRow cv.heap.size 28 1 vm i9x ((List.range i9x).map H2))/\(Wr W cv.heap.size wr.heap.size i9x H2 KM)/\(W.ownsRow cv.heap.size 28 1 vc i9x ((List.range i9x).map H3))/\(Wr W cv.heap.size wr.heap.size i9x H3 KC)/\(W.ownsRow cv.heap.size 33 2 vy acY.length (ag acY))/\(ar W cy.heap.size 30 #[vm,vy,vc])) ?_ ?_;by_cases od:(i9x:Int)=0;refine I ?_;(try refine aa (aN (cs:=[.slice A ys.length C,.slice Y ys.length CY,.slice B ys.length CB]) (b:=w.heap.size) (o:=0) j5 Z ks Z (aa0 cw (i:=0) Z) ?_));refine I ?_;refine cl tF mZ ?_;rintro _ _ apr rfl;have cw:=be apr.2 cw;have hout:=ab apr.2 hout;have hwr:=aa1 apr.2 hwr;have hout3:=ab apr.2 hout3;have hwr3:=aa1 apr.2 hwr3;have hyrow:=ab apr.2 hyrow;have⟨fx,lq⟩:=bo apr.2 fx lq;refine I ?_;refine cl fp df ?_;rintro _ _ aps rfl;have cw:=be aps.2 cw;have hout:=ab aps.2 hout;have hwr:=aa1 aps.2 hwr;have hout3:=ab aps.2 hout3;have hwr3:=aa1 aps.2 hwr3;have hyrow:=ab aps.2 hyrow;have⟨fx,lq⟩:=bo aps.2 fx lq;refine I ?_
 exact C4 ⟨lq,U,cw,hout,hwr,hout3,hwr3,hyrow,fx⟩;refine I ?_;(try refine aa (aN (cs:=[.slice A ys.length C,.slice Y ys.length CY,.slice B ys.length CB]) (b:=w.heap.size) (o:=0) j5 Z ks Z (aa0 cw (i:=0) Z) ?_));refine I ?_;refine cl tF mZ ?_;rintro _ _ apt rfl;have cw:=be apt.2 cw;have hout:=ab apt.2 hout;have hwr:=aa1 apt.2 hwr;have hout3:=ab apt.2 hout3;have hwr3:=aa1 apt.2 hwr3;have hyrow:=ab apt.2 hyrow;have⟨fx,lq⟩:=bo apt.2 fx lq;refine I ?_;refine qk (I ?_);refine aa (If (a:=(i9x:Int)-1) (b:=0) (m:=((i9x-1:Nat):Int)) Z Z ke0 ?_);have zq2q:=pX (hR.ext lq) (i:=(i9x-1)) U;refine I ?_;refine fM zq2q (I ?_);refine cl fp df ?_ (av (congrArg Value.bool (decide_eq_true U)) Z);rintro _ _ apu rfl;have cw:=be apu.2 cw;have hout:=ab apu.2 hout;have hwr:=aa1 apu.2 hwr;have hout3:=ab apu.2 hout3;have hwr3:=aa1 apu.2 hwr3;have hyrow:=ab apu.2 hyrow;have⟨fx,lq⟩:=bo apu.2 fx lq;refine I ?_;exact C4 ⟨lq,U,cw,hout,hwr,hout3,hwr3,hyrow,fx⟩;rintro _ aqe ⟨asz,a04,cw,hout,hwr,hout3,hwr3,hyrow,fx⟩;have a05:=bz asz;refine I ?_;have auj:World.ownsRow aqe aqe.heap.size 33 2 (.slice none 0 0) 0 (ag []):=bK
 refine b7 [(7,7),(9,9),(42,67)] (λkk e W=>∃k:Nat,∃ac:List R,∃vrow:Value,(rl.length-k=kk)/\(e 42=.int .i64 k)/\(e 7=vrow)/\(k<=rl.length)/\(ac.length=k)/\(∀j,j<k->ao ac j=ao (V (rl.getD i9x 0)) (rl.getD j 0))/\(aqe.heap.size<=W.heap.size)/\((vrow).ownBlock≠some w.heap.size)/\((vrow).ownBlock≠some cy.heap.size)/\(ay vm vrow)/\(ay vc vrow)/\(ay vy vrow)/\(aO w W)/\(ar W w.heap.size 82 #[.slice A ys.length C,.slice Y ys.length CY,.slice B ys.length CB])/\(W.ownsRow cv.heap.size 28 1 vm i9x ((List.range i9x).map H2))/\(Wr W cv.heap.size wr.heap.size i9x H2 KM)/\(W.ownsRow cv.heap.size 28 1 vc i9x ((List.range i9x).map H3))/\(Wr W cv.heap.size wr.heap.size i9x H3 KC)/\(W.ownsRow cv.heap.size 33 2 vy acY.length (ag acY))/\(ar W cy.heap.size 30 #[vm,vy,vc])/\(W.ownsRow aqe.heap.size 33 2 vrow ac.length (ag ac))) (rl.length-0) ⟨0,[],.slice none 0 0,rfl,rfl,rfl,(qa7 _),rfl,(λj hj=>by omega),(qa0 _),(λe=>by cases e),(λe=>by cases e),(aa5 ad2),(aa5 ad2),(aa5 ad2),asz,cw,hout,hwr,hout3,hwr3,hyrow,fx,auj⟩ ?_;rintro _ _ aqk ⟨k,ac,vrow,rfl,aq0,as0,hi_k,hal_ac,hacf,a08,as1,aql,aq1,ar7,aq2,cf,cw,hout,hwr,hout3,hwr3,hyrow,fx,hrow⟩;by_cases hlk:k<rl.length;have hrk:=pe.lt k hlk;have zq3q:=pX (hR.ext cf) (i:=(k)) U;refine I ?_
 refine fM zq3q (I ?_);(try refine aa (aN (cs:=[.slice A ys.length C,.slice Y ys.length CY,.slice B ys.length CB]) (b:=w.heap.size) (o:=0) j5 Z ks Z (aa0 cw (i:=0) Z) ?_));refine I ?_;refine cl tF mZ ?_;rintro _ _ apl rfl;have cw:=be apl.2 cw;have hout:=ab apl.2 hout;have hwr:=aa1 apl.2 hwr;have hout3:=ab apl.2 hout3;have hwr3:=aa1 apl.2 hwr3;have hyrow:=ab apl.2 hyrow;have fx:=be apl.2 fx;have hrow:=ab apl.2 hrow;have cf:=xt cf apl.2;refine I ?_;refine cl fp df ?_ (av (qb2 Value.bool (qa1 U)) Z);rintro _ _ apm rfl;have cw:=be apm.2 cw;have hout:=ab apm.2 hout;have hwr:=aa1 apm.2 hwr;have hout3:=ab apm.2 hout3;have hwr3:=aa1 apm.2 hwr3;have hyrow:=ab apm.2 hyrow;have fx:=be apm.2 fx;have hrow:=ab apm.2 hrow;have cf:=xt cf apm.2;refine I ?_;refine aa (aT (v:=vrow) as0 ?_);have zq4q:=aa8 (hV.ext cf) (i:=((rl).getD i9x 0)) U;refine I ?_;refine fM zq4q ?_;have zq5q:=ac6 (hV.ext cf) (i:=((rl).getD i9x 0)) (k:=((rl).getD k 0)) U U;refine I ?_;refine li zq5q (I ?_);refine BS (λ_ ao8 _ auk=>?_);have cw:=be ao8 cw;have hout:=ab ao8 hout;have hwr:=aa1 ao8 hwr;have hout3:=ab ao8 hout3;have hwr3:=aa1 ao8 hwr3;have hyrow:=ab ao8 hyrow;have fx:=be ao8 fx;have hrow:=ab ao8 hrow
 have cf:=xt cf ao8;refine AP hrow (aa7 auk) (λas2 _ aul apn aqm=>?_);have aum:=aR aqm as1 (bt cw);have aun:=aR aqm aql (bt fx);have cw:=aa2 apn (λe=>as1 e.symm) cw;have auo:=ab0 aqm (aa5 aq1) hout;have hout:=ab3 (aa5 aq1) apn hout;have hwr:=Wr.gr apn (λg e=>Or.inr (qa8 U (aS hrow g e))) hwr;have aup:=ab0 aqm (aa5 ar7) hout3;have hout3:=ab3 (aa5 ar7) apn hout3;have hwr3:=Wr.gr apn (λg e=>Or.inr (qa8 U (aS hrow g e))) hwr3;have auq:=ab0 aqm (aa5 aq2) hyrow;have hyrow:=ab3 (aa5 aq2) apn hyrow;have fx:=aa2 apn (λe=>aql e.symm) fx;have cf:=bu hrow U U cf apn;have a1m:=apn.size;refine aa (aK (v:=as2) Z ?_);refine I ?_;refine fO (I ?_);exact bF ⟨k+1,ac++[(ao (V (rl.getD i9x 0)) (rl.getD k 0))],as2,rfl,rfl,rfl,U,KK,(td (f:=λj=>ao (V (rl.getD i9x 0)) (rl.getD j 0)) hal_ac hacf),U,aum,aun,(aa5 auo),(aa5 aup),(aa5 auq),cf,cw,hout,hwr,hout3,hwr3,hyrow,fx,(aP aul Rg (dv _ (ao (V (rl.getD i9x 0)) (rl.getD k 0))))⟩;refine I ?_;have ar8:=dr hout;have aur:=dr hout3;have as3:=dr hyrow;have aus:=dr hrow;have ao9:=ac3 aqk
 refine tX 27 (λls e W=>∃cm:Value,∃mq:Nat,∃cr:Value,∃ly:Nat,∃cx:Value,∃lr:Nat,∃lp:Value,(aO w W)/\(aqk.heap.size<=W.heap.size)/\(ls 8=true->e 76=cm)/\(ls 9=true->e 77=.slice (some ⟨mq,0,none⟩) 1 1)/\(ls 10=true->e 78=cr)/\(ls 19=true->e 87=.slice (some ⟨ly,0,none⟩) 1 1)/\(ls 20=true->e 88=cx)/\(ls 24=true->e 92=.slice (some ⟨lr,0,none⟩) 1 1)/\(ls 25=true->e 93=lp)/\(ls 9=true->aqk.heap.size<=mq/\mq<W.heap.size)/\(ls 19=true->aqk.heap.size<=ly/\ly<W.heap.size)/\(ls 24=true->aqk.heap.size<=lr/\lr<W.heap.size)/\(ls 9=true->ls 19=true->mq≠ly)/\(ls 9=true->ls 24=true->mq≠lr)/\(ls 19=true->ls 24=true->ly≠lr)/\(ar W w.heap.size 82 #[.slice A ys.length C,.slice Y ys.length CY,.slice B ys.length CB])/\(ls 10=false->(W.ownsRow cv.heap.size 28 1 vm i9x ((List.range i9x).map H2)))/\(ls 10=true->ls 20=false->(W.ownsRow cv.heap.size 28 1 cr (i9x+1) (((List.range i9x).map H2)++[cm])/\((cr).ownBlock≠some w.heap.size)/\((cr).ownBlock≠some cy.heap.size)/\(ay cr vc)/\(ay cr vy)/\(ay cr vrow)/\(ay cr cm)/\(∀jx,jx<i9x->ay cr (H2 jx))/\(∀jx,jx<i9x->ay cr (H3 jx))))/\(ls 20=true->ls 25=false->(W.ownsRow cv.heap.size 28 1 cr (i9x+1) (((List.range i9x).map H2)++[cm])/\((cr).ownBlock≠some w.heap.size)/\((cr).ownBlock≠some cy.heap.size)/\(ay cr vc)/\(ay cr vrow)/\(ay cr cm)/\(∀jx,jx<i9x->ay cr (H2 jx))/\(∀jx,jx<i9x->ay cr (H3 jx))))/\(ls 25=true->(W.ownsRow cv.heap.size 28 1 cr (i9x+1) (((List.range i9x).map H2)++[cm])/\((cr).ownBlock≠some w.heap.size)/\((cr).ownBlock≠some cy.heap.size)/\(ay cr vrow)/\(ay cr cm)/\(∀jx,jx<i9x->ay cr (H2 jx))/\(∀jx,jx<i9x->ay cr (H3 jx))))/\(Wr W cv.heap.size wr.heap.size i9x H2 KM)/\(ls 20=false->(W.ownsRow cv.heap.size 28 1 vc i9x ((List.range i9x).map H3)))/\(ls 20=true->ls 25=false->(W.ownsRow cv.heap.size 28 1 vc i9x ((List.range i9x).map H3)/\((vc).ownBlock≠some w.heap.size)/\((vc).ownBlock≠some cy.heap.size)/\(ay vc vrow)/\(∀jx,jx<i9x->ay vc (H2 jx))/\(∀jx,jx<i9x->ay vc (H3 jx))))/\(ls 25=true->(W.ownsRow cv.heap.size 28 1 lp (i9x+1) (((List.range i9x).map H3)++[vrow])/\((lp).ownBlock≠some w.heap.size)/\((lp).ownBlock≠some cy.heap.size)/\(ay lp cr)/\(ay lp cx)/\(ay lp vrow)/\(ay lp cm)/\(∀jx,jx<i9x->ay lp (H2 jx))/\(∀jx,jx<i9x->ay lp (H3 jx))))/\(Wr W cv.heap.size wr.heap.size i9x H3 KC)/\(ls 20=false->(W.ownsRow cv.heap.size 33 2 vy acY.length (ag acY)))/\(ls 20=true->ls 25=false->(W.ownsRow cv.heap.size 33 2 cx (acY.length+1) ((ag acY)++[S ((ao ys ((rl).getD i9x 0)).1),S ((ao ys ((rl).getD i9x 0)).2)])/\((cx).ownBlock≠some w.heap.size)/\((cx).ownBlock≠some cy.heap.size)/\(ay cx cr)/\(ay cx vc)/\(ay cx vrow)/\(ay cx cm)/\(∀jx,jx<i9x->ay cx (H2 jx))/\(∀jx,jx<i9x->ay cx (H3 jx))))/\(ls 25=true->(W.ownsRow cv.heap.size 33 2 cx (acY.length+1) ((ag acY)++[S ((ao ys ((rl).getD i9x 0)).1),S ((ao ys ((rl).getD i9x 0)).2)])/\((cx).ownBlock≠some w.heap.size)/\((cx).ownBlock≠some cy.heap.size)/\(ay cx cr)/\(ay cx vrow)/\(ay cx cm)/\(∀jx,jx<i9x->ay cx (H2 jx))/\(∀jx,jx<i9x->ay cx (H3 jx))))/\(ar W cy.heap.size 30 #[vm,vy,vc])/\(W.ownsRow aqe.heap.size 33 2 vrow ac.length (ag ac))/\(ls 8=true->ls 10=false->(W.ownsRow wr.heap.size 33 2 cm ((L ((rl).getD i9x 0)).length) (ag (L ((rl).getD i9x 0)))/\(ay cm vm)/\(ay cm vc)/\(ay cm vy)/\(ay cm vrow)))/\(ls 10=true->ls 20=false->(W.ownsRow wr.heap.size 33 2 cm ((L ((rl).getD i9x 0)).length) (ag (L ((rl).getD i9x 0)))/\(ay cm vc)/\(ay cm vy)/\(ay cm vrow)))/\(ls 20=true->ls 25=false->(W.ownsRow wr.heap.size 33 2 cm ((L ((rl).getD i9x 0)).length) (ag (L ((rl).getD i9x 0)))/\(ay cm vc)/\(ay cm vrow)))/\(ls 25=true->(W.ownsRow wr.heap.size 33 2 cm ((L ((rl).getD i9x 0)).length) (ag (L ((rl).getD i9x 0)))/\(ay cm vrow)))/\(ls 9=true->ls 10=false->(World.ownsRow W mq 28 1 (.slice (some ⟨mq,0,none⟩) 1 1) 1 [cm]))/\(ls 19=true->ls 20=false->(World.ownsRow W ly 33 2 (.slice (some ⟨ly,0,none⟩) 1 1) 1 [S ((ao ys ((rl).getD i9x 0)).1),S ((ao ys ((rl).getD i9x 0)).2)]))/\(ls 24=true->ls 25=false->(World.ownsRow W lr 28 1 (.slice (some ⟨lr,0,none⟩) 1 1) 1 [vrow]))) ⟨.nilIface,0,.nilIface,0,.nilIface,0,.nilIface,(xt cf ao9),(bz ao9),(ff Z),(ff Z),(ff Z),(ff Z),(ff Z),(ff Z),(ff Z),(ff Z),(ff Z),(ff Z),(ff Z),(ff Z),(ff Z),(be ao9 cw),(λ_=>(ab ao9 hout)),(λh _=>ff Z h),(λh _=>ff Z h),(λh=>ff Z h),(aa1 ao9 hwr),(λ_=>(ab ao9 hout3)),(λh _=>ff Z h),(λh=>ff Z h),(aa1 ao9 hwr3),(λ_=>(ab ao9 hyrow)),(λh _=>ff Z h),(λh=>ff Z h),(be ao9 fx),(ab ao9 hrow),(λh _=>ff Z h),(λh _=>ff Z h),(λh _=>ff Z h),(λh=>ff Z h),(λh _=>ff Z h),(λh _=>ff Z h),(λh _=>ff Z h)⟩ ?_
 refine sf ?_;refine b9 (λa1u a1v a1w _ aut a1x _=>by obtain⟨_,_,_,_,_,_,_,_,_,_,_,_,_,_,_,_,_,_,_,_,_,_,_,_,_,_,_,_,_,_,_,_,_,_,_,nm,_⟩:=aut;refine I ?_;exact aE) ?_;refine sf ?_;refine b9 (λa19 a2a a2b _ auu a2c _=>by obtain⟨_,_,_,_,_,_,_,_,_,_,_,_,_,_,_,_,_,_,_,_,_,_,np,_⟩:=auu;refine I ?_;exact aE) ?_;refine sf ?_;refine b9 (λa2i a2j a2k _ auv a2l _=>by obtain⟨_,_,_,_,_,_,_,cf,_⟩:=auv;have zq6q:=aa8 (hM.ext cf) (i:=((rl).getD i9x 0)) U;refine I ?_;refine fM zq6q ?_;refine I ?_;exact aE) ?_;refine b9 (λa2m a2n a2o _ auw a2p _=>by obtain⟨_,_,_,_,_,_,_,cf,_⟩:=auw;have zq7q:=aa8 (hM.ext cf) (i:=((rl).getD i9x 0)) U;refine I ?_;exact aE) ?_;refine fU (λ_ _ _ aux fy wz _=>?_) ?_;obtain⟨cm,mq,cr,ly,cx,lr,lp,cf,zst,w5,w7,w8,w9,aol,aom,aon,nq,ns,nv,aox,aoy,aoz,np,ao0,ao1,apa,apv,p6,aor,apb,apw,r8,aos,apc,apx,nm,sc,aot,ao2,apd,apy,ape,ao3,aou⟩:=aux;have aq3:=np;have ar9:=ao0 (bG fy (i:=8) (j:=10) Z wz);have asa:=p6;have asb:=aor (bG fy (i:=10) (j:=20) Z (bG fy (i:=8) (j:=10) Z wz));have asd:=r8;have ase:=aos (bG fy (i:=10) (j:=20) Z (bG fy (i:=8) (j:=10) Z wz));have aq4:=nm;have asf:=sc;refine clb NA (hc:=pZ (Mt.row (hM.ext cf) ((rl).getD i9x 0) U) U) (hk:=?_);rintro aqn _ ao4 aqc;have ao4:=ao4.2
 have auy:ay aqn (vm):=λg h1 h2=>by have h3:=aS aqc _ h1;have h4:=ar8 _ h2;omega
 have auz:ay aqn (vc):=λg h1 h2=>by have h3:=aS aqc _ h1;have h4:=aur _ h2;omega
 have au0:ay aqn (vy):=λg h1 h2=>by have h3:=aS aqc _ h1;have h4:=as3 _ h2;omega
 have au1:ay aqn (vrow):=λg h1 h2=>by have h3:=aS aqc _ h1;have h4:=aus _ h2;omega
 have aqc:=bM (lo':=wr.heap.size) U aqc;have aq3:=be ao4 aq3;have ar9:=ab ao4 ar9;have asa:=aa1 ao4 asa;have asb:=ab ao4 asb;have asd:=aa1 ao4 asd;have ase:=ab ao4 ase;have aq4:=be ao4 aq4;have asf:=ab ao4 asf;have cf:=xt cf ao4;refine I ?_
 exact fs ⟨aqn,mq,cr,ly,cx,lr,lp,cf,U,(λ_=>rfl),w7,w8,w9,aol,aom,aon,(λx=>by have:=nq x;omega),(λx=>by have:=ns x;omega),(λx=>by have:=nv x;omega),aox,aoy,aoz,aq3,(λ_=>ar9),(λau2 _=>ff (bG fy (i:=8) (j:=10) Z wz) au2),(λau3 _=>ff (bG fy (i:=10) (j:=20) Z (bG fy (i:=8) (j:=10) Z wz)) au3),(λau4=>ff (bG fy (i:=20) (j:=25) Z (bG fy (i:=10) (j:=20) Z (bG fy (i:=8) (j:=10) Z wz))) au4),asa,(λ_=>asb),(λau5 _=>ff (bG fy (i:=10) (j:=20) Z (bG fy (i:=8) (j:=10) Z wz)) au5),(λau6=>ff (bG fy (i:=20) (j:=25) Z (bG fy (i:=10) (j:=20) Z (bG fy (i:=8) (j:=10) Z wz))) au6),asd,(λ_=>ase),(λau7 _=>ff (bG fy (i:=10) (j:=20) Z (bG fy (i:=8) (j:=10) Z wz)) au7),(λau8=>ff (bG fy (i:=20) (j:=25) Z (bG fy (i:=10) (j:=20) Z (bG fy (i:=8) (j:=10) Z wz))) au8),aq4,asf,(λ_ _=>⟨aqc,auy,auz,au0,au1⟩),(λau9 _=>ff (bG fy (i:=8) (j:=10) Z wz) au9),(λava _=>ff (bG fy (i:=10) (j:=20) Z (bG fy (i:=8) (j:=10) Z wz)) ava),(λavb=>ff (bG fy (i:=20) (j:=25) Z (bG fy (i:=10) (j:=20) Z (bG fy (i:=8) (j:=10) Z wz))) avb),(λavc _=>ff (bG fy (i:=8) (j:=9) Z wz) avc),(λavd ave=>(ab ao4 (ao3 avd ave))),(λavf avg=>(ab ao4 (aou avf avg)))⟩
 refine fU (λ_ avh _ avi lm aoo as4=>?_) ?_;obtain⟨cm,mq,cr,ly,cx,lr,lp,cf,zst,w5,w7,w8,w9,aol,aom,aon,nq,ns,nv,aox,aoy,aoz,np,ao0,ao1,apa,apv,p6,aor,apb,apw,r8,aos,apc,apx,nm,sc,aot,ao2,apd,apy,ape,ao3,aou⟩:=avi;have avj:=w5 (as4 8 Z);have aq5:=np;have aq6:=ao0 (bG lm (i:=9) (j:=10) Z aoo);have asg:=p6;have aq7:=aor (bG lm (i:=10) (j:=20) Z (bG lm (i:=9) (j:=10) Z aoo));have ash:=r8;have aq8:=aos (bG lm (i:=10) (j:=20) Z (bG lm (i:=9) (j:=10) Z aoo));have aq9:=nm;have ara:=sc;obtain⟨aqo,avk,avl,avm,avn⟩:=aot (as4 8 Z) (bG lm (i:=9) (j:=10) Z aoo);refine aa (cE (vs:=[(0,cm)]) (cells:=#[cm]) QP jq (cj avj Z) dc dc (jd _ (bP aqo)) Z dc (λ_ aov _ avo=>?_));have aq5:=be aov aq5;have aq6:=ab aov aq6;have asg:=aa1 aov asg;have aq7:=ab aov aq7;have ash:=aa1 aov ash;have aq8:=ab aov aq8;have aq9:=be aov aq9;have ara:=ab aov ara;have aqo:=ab aov aqo;have cf:=xt cf aov;refine I ?_
 exact fs ⟨cm,avh.heap.size,cr,ly,cx,lr,lp,cf,U,w5,(λ_=>rfl),w8,w9,aol,aom,aon,(λ_=>⟨by omega,by omega⟩),(λx=>by have:=ns x;omega),(λx=>by have:=nv x;omega),(λ_ x=>by have:=ns x;omega),(λ_ x=>by have:=nv x;omega),aoz,aq5,(λ_=>aq6),(λavp _=>ff (bG lm (i:=9) (j:=10) Z aoo) avp),(λavq _=>ff (bG lm (i:=10) (j:=20) Z (bG lm (i:=9) (j:=10) Z aoo)) avq),(λavr=>ff (bG lm (i:=20) (j:=25) Z (bG lm (i:=10) (j:=20) Z (bG lm (i:=9) (j:=10) Z aoo))) avr),asg,(λ_=>aq7),(λavs _=>ff (bG lm (i:=10) (j:=20) Z (bG lm (i:=9) (j:=10) Z aoo)) avs),(λavt=>ff (bG lm (i:=20) (j:=25) Z (bG lm (i:=10) (j:=20) Z (bG lm (i:=9) (j:=10) Z aoo))) avt),ash,(λ_=>aq8),(λavu _=>ff (bG lm (i:=10) (j:=20) Z (bG lm (i:=9) (j:=10) Z aoo)) avu),(λavv=>ff (bG lm (i:=20) (j:=25) Z (bG lm (i:=10) (j:=20) Z (bG lm (i:=9) (j:=10) Z aoo))) avv),aq9,ara,(λ_ _=>⟨aqo,avk,avl,avm,avn⟩),(λavw _=>ff (bG lm (i:=9) (j:=10) Z aoo) avw),(λavx _=>ff (bG lm (i:=10) (j:=20) Z (bG lm (i:=9) (j:=10) Z aoo)) avx),(λavy=>ff (bG lm (i:=20) (j:=25) Z (bG lm (i:=10) (j:=20) Z (bG lm (i:=9) (j:=10) Z aoo))) avy),(λ_ _=>avo),(λavz av0=>(ab aov (ao3 avz av0))),(λav1 av2=>(ab aov (aou av1 av2)))⟩
 refine fU (λ_ _ _ av3 aop aow arb=>?_) ?_;obtain⟨cm,mq,cr,ly,cx,lr,lp,cf,zst,w5,w7,w8,w9,aol,aom,aon,nq,ns,nv,aox,aoy,aoz,np,ao0,ao1,apa,apv,p6,aor,apb,apw,r8,aos,apc,apx,nm,sc,aot,ao2,apd,apy,ape,ao3,aou⟩:=av3;have av4:=w7 (arb 9 Z);have a3u:=bz cf;have asi:=nq (arb 9 Z);have aqp:=np;have as5:=ao0 aow;have arc:=p6;have ard:=aor (bG aop (i:=10) (j:=20) Z aow);have arf:=r8;have arh:=aos (bG aop (i:=10) (j:=20) Z aow);have aqq:=nm;have a3w:=bt aqq;have ari:=sc;obtain⟨aqr,as6,av5,av6,av7⟩:=aot (arb 8 Z) aow;have av8:=ape (arb 9 Z) aow;refine AP as5 (aa7 av8) (λasj _ av9 ao5 apz=>?_) (h1:=Ro (bP aqr));have awa:=aR apz ass (bt aqp);have awb:=aR apz ast (bt aqq);have awc:∀jx,jx<i9x->ay asj (H2 jx):=λjx hi=>ab0 apz (hap11 jx hi) (Wr.own arc jx hi);have awd:∀jx,jx<i9x->ay asj (H3 jx):=λjx hi=>ab0 apz (hap13 jx hi) (Wr.own arf jx hi);have aqp:=aa2 ao5 (λe=>ass e.symm) aqp;have arc:=ad4 ao5 hap11 arc;have awe:=ab0 apz asw ard;have ard:=ab3 asw ao5 ard;have arf:=ad4 ao5 hap13 arf;have awf:=ab0 apz asx arh;have arh:=ab3 asx ao5 arh;have aqq:=aa2 ao5 (λe=>ast e.symm) aqq;have awg:=ab0 apz aq1 ari;have ari:=ab3 aq1 ao5 ari;have awh:=ab0 apz (aa5 as6) aqr;have aqr:=ab3 (aa5 as6) ao5 aqr
 have cf:=bu as5 U U cf ao5;have a3y:=ao5.size;refine I ?_;exact fs ⟨cm,mq,asj,ly,cx,lr,lp,cf,U,w5,w7,(λ_=>rfl),w9,aol,aom,aon,(λx=>by have:=nq x;omega),(λx=>by have:=ns x;omega),(λx=>by have:=nv x;omega),aox,aoy,aoz,aqp,(λawi=>tf Z awi),(λ_ _=>⟨av9,awa,awb,awe,awf,awg,awh,awc,awd⟩),(λawj _=>ff (bG aop (i:=10) (j:=20) Z aow) awj),(λawk=>ff (bG aop (i:=20) (j:=25) Z (bG aop (i:=10) (j:=20) Z aow)) awk),arc,(λ_=>ard),(λawl _=>ff (bG aop (i:=10) (j:=20) Z aow) awl),(λawm=>ff (bG aop (i:=20) (j:=25) Z (bG aop (i:=10) (j:=20) Z aow)) awm),arf,(λ_=>arh),(λawn _=>ff (bG aop (i:=10) (j:=20) Z aow) awn),(λawo=>ff (bG aop (i:=20) (j:=25) Z (bG aop (i:=10) (j:=20) Z aow)) awo),aqq,ari,(λ_ awp=>tf Z awp),(λ_ _=>⟨aqr,av5,av6,av7⟩),(λawq _=>ff (bG aop (i:=10) (j:=20) Z aow) awq),(λawr=>ff (bG aop (i:=20) (j:=25) Z (bG aop (i:=10) (j:=20) Z aow)) awr),(λ_ aws=>tf Z aws),(λas7 awt=>(nW ao5 (λg e e2=>by cases e;have:ly<_:=ar8 _ e2.symm;have:=ns as7;omega) (ao3 as7 awt))),(λas8 awu=>(nW ao5 (λg e e2=>by cases e;have:lr<_:=ar8 _ e2.symm;have:=nv as8;omega) (aou as8 awu)))⟩;refine sf ?_
 refine b9 (λa4b a4c a4d _ awv a4e _=>by obtain⟨_,_,_,_,_,_,_,_,_,_,_,_,_,_,_,_,_,_,_,_,_,_,_,_,_,_,_,_,_,_,_,_,_,_,_,nm,_⟩:=awv;refine I ?_;exact aE) ?_;refine sf ?_;refine b9 (λa4p a4q a4r _ aww a4s _=>by obtain⟨_,_,_,_,_,_,_,_,_,_,_,_,_,_,_,_,_,_,_,_,_,_,np,_⟩:=aww;refine I ?_;exact aE) ?_;refine sf ?_;refine b9 (λa4y a4z a40 _ awx a41 _=>by obtain⟨_,_,_,_,_,_,_,cf,_⟩:=awx;have zq8q:=bD (hy.ext cf) (k:=((rl).getD i9x 0)) U;refine I ?_;refine li zq8q ?_;refine I ?_;exact aE) ?_;refine b9 (λa42 a43 a44 _ awy a45 _=>by obtain⟨_,_,_,_,_,_,_,cf,_⟩:=awy;have zq9q:=bD (hy.ext cf) (k:=((rl).getD i9x 0)) U;refine I ?_;exact aE) ?_;refine fU (λ_ awz _ aw0 aoq apf _=>?_) ?_;obtain⟨cm,mq,cr,ly,cx,lr,lp,cf,zst,w5,w7,w8,w9,aol,aom,aon,nq,ns,nv,aox,aoy,aoz,np,ao0,ao1,apa,apv,p6,aor,apb,apw,r8,aos,apc,apx,nm,sc,aot,ao2,apd,apy,ape,ao3,aou⟩:=aw0;have arj:=np;have ask:=p6;have ark:=aor (bG aoq (i:=19) (j:=20) Z apf);have asl:=r8;have arl:=aos (bG aoq (i:=19) (j:=20) Z apf);have arm:=nm;have arn:=sc;refine BS (λ_ v7 _ aw1=>?_);have arj:=be v7 arj;have ask:=aa1 v7 ask;have ark:=ab v7 ark;have asl:=aa1 v7 asl;have arl:=ab v7 arl;have arm:=be v7 arm;have arn:=ab v7 arn;have cf:=xt cf v7;refine I ?_
 exact fs ⟨cm,mq,cr,awz.heap.size,cx,lr,lp,cf,U,w5,w7,w8,(λ_=>rfl),aol,aom,aon,(λx=>by have:=nq x;omega),(λ_=>⟨by omega,by omega⟩),(λx=>by have:=nv x;omega),(λx _=>by have:=nq x;omega),aoy,(λ_ x=>by have:=nv x;omega),arj,(λaw2=>(ab v7 (ao0 aw2))),(λas9 ata=>⟨(ab v7 ((ao1 as9 ata).1)),(ao1 as9 ata).2⟩),(λaw3 _=>ff (bG aoq (i:=19) (j:=20) Z apf) aw3),(λaw4=>ff (bG aoq (i:=20) (j:=25) Z (bG aoq (i:=19) (j:=20) Z apf)) aw4),ask,(λ_=>ark),(λaw5 _=>ff (bG aoq (i:=19) (j:=20) Z apf) aw5),(λaw6=>ff (bG aoq (i:=20) (j:=25) Z (bG aoq (i:=19) (j:=20) Z apf)) aw6),asl,(λ_=>arl),(λaw7 _=>ff (bG aoq (i:=19) (j:=20) Z apf) aw7),(λaw8=>ff (bG aoq (i:=20) (j:=25) Z (bG aoq (i:=19) (j:=20) Z apf)) aw8),arm,arn,(λatb atc=>⟨(ab v7 ((aot atb atc).1)),(aot atb atc).2⟩),(λatd ate=>⟨(ab v7 ((ao2 atd ate).1)),(ao2 atd ate).2⟩),(λaw9 _=>ff (bG aoq (i:=19) (j:=20) Z apf) aw9),(λaxa=>ff (bG aoq (i:=20) (j:=25) Z (bG aoq (i:=19) (j:=20) Z apf)) axa),(λaxb axc=>(ab v7 (ape axb axc))),(λ_ _=>aw1),(λaxd axe=>(ab v7 (aou axd axe)))⟩;refine fU (λ_ _ _ axf aqs apo apq=>?_) ?_
 obtain⟨cm,mq,cr,ly,cx,lr,lp,cf,zst,w5,w7,w8,w9,aol,aom,aon,nq,ns,nv,aox,aoy,aoz,np,ao0,ao1,apa,apv,p6,aor,apb,apw,r8,aos,apc,apx,nm,sc,aot,ao2,apd,apy,ape,ao3,aou⟩:=axf;have axg:=w9 (apq 19 Z);have a5q:=bz cf;have asi:=nq (aqs 10 9 Z (apq 10 Z));have atf:=ns (apq 19 Z);have aqt:=np;obtain⟨aro,axh,axi,axj,atg,axk,axl,axm,axn⟩:=ao1 (apq 10 Z) apo;have arp:=p6;have arq:=aor apo;have arr:=r8;have ath:=aos apo;have aqu:=nm;have a5s:=bt aqu;have ars:=sc;obtain⟨art,axo,ati,axp⟩:=ao2 (apq 10 Z) apo;have axq:=ao3 (apq 19 Z) apo;refine AP ath (aa7 axq) (λasm _ axr ao6 ap0=>?_);have axs:=aR ap0 asu (bt aqt);have axt:=aR ap0 asv (bt aqu);have axu:∀jx,jx<i9x->ay asm (H2 jx):=λjx hi=>ab0 ap0 (hapy1 jx hi) (Wr.own arp jx hi);have axv:∀jx,jx<i9x->ay asm (H3 jx):=λjx hi=>ab0 ap0 (hapy3 jx hi) (Wr.own arr jx hi);have aqt:=aa2 ao6 (λe=>asu e.symm) aqt;have axw:=ab0 ap0 (aa5 atg) aro;have aro:=ab3 (aa5 atg) ao6 aro;have arp:=ad4 ao6 hapy1 arp;have axx:=ab0 ap0 (aa5 asy) arq;have arq:=ab3 (aa5 asy) ao6 arq;have arr:=ad4 ao6 hapy3 arr;have aqu:=aa2 ao6 (λe=>asv e.symm) aqu;have axy:=ab0 ap0 aq2 ars;have ars:=ab3 aq2 ao6 ars
 have axz:=ab0 ap0 (aa5 ati) art;have art:=ab3 (aa5 ati) ao6 art;have cf:=bu ath U U cf ao6;have a5u:=ao6.size;refine I ?_;exact fs ⟨cm,mq,cr,ly,asm,lr,lp,cf,U,w5,w7,w8,w9,(λ_=>rfl),aom,aon,(λx=>by have:=nq x;omega),(λx=>by have:=ns x;omega),(λx=>by have:=nv x;omega),aox,aoy,aoz,aqt,(λax0=>tf (apq 10 Z) ax0),(λ_ ax1=>tf Z ax1),(λ_ _=>⟨aro,axh,axi,axj,axk,axl,axm,axn⟩),(λax2=>ff (bG aqs (i:=20) (j:=25) Z apo) ax2),arp,(λax3=>tf Z ax3),(λ_ _=>⟨arq,auh,aui,ar7,hap31,hap33⟩),(λax4=>ff (bG aqs (i:=20) (j:=25) Z apo) ax4),arr,(λax5=>tf Z ax5),(λ_ _=>⟨axr,axs,axt,axw,axx,axy,axz,axu,axv⟩),(λax6=>ff (bG aqs (i:=20) (j:=25) Z apo) ax6),aqu,ars,(λ_ ax7=>tf (apq 10 Z) ax7),(λ_ ax8=>tf Z ax8),(λ_ _=>⟨art,axo,axp⟩),(λax9=>ff (bG aqs (i:=20) (j:=25) Z apo) ax9),(λ_ aya=>tf (apq 10 Z) aya),(λ_ ayb=>tf Z ayb),(λatj ayc=>(nW ao6 (λg e e2=>by cases e;have:lr<_:=as3 _ e2.symm;have:=nv atj;omega) (aou atj ayc)))⟩;refine sf ?_;refine b9 (λa57 a58 a59 _ ayd a6a _=>by obtain⟨_,_,_,_,_,_,_,_,_,_,_,_,_,_,_,_,_,_,_,_,_,_,_,_,_,_,_,_,_,_,_,_,_,_,_,nm,_⟩:=ayd;refine I ?_;exact aE) ?_
 refine b9 (λa6b a6c a6d _ a6e a6f _=>by refine aa (aT (v:=vrow) as0 ?_);refine I ?_;exact aE) ?_;refine fU (λ_ aye _ ayf aru arv _=>?_) ?_;obtain⟨cm,mq,cr,ly,cx,lr,lp,cf,zst,w5,w7,w8,w9,aol,aom,aon,nq,ns,nv,aox,aoy,aoz,np,ao0,ao1,apa,apv,p6,aor,apb,apw,r8,aos,apc,apx,nm,sc,aot,ao2,apd,apy,ape,ao3,aou⟩:=ayf;have arw:=np;have asn:=p6;have aso:=r8;have arx:=nm;have aqv:=sc;refine aa (cE (vs:=[(0,vrow)]) (cells:=#[vrow]) QP jq Z dc dc (jd _ (bP aqv)) Z dc (λ_ ny _ ayg=>?_));have arw:=be ny arw;have asn:=aa1 ny asn;have aso:=aa1 ny aso;have arx:=be ny arx;have aqv:=ab ny aqv;have cf:=xt cf ny;refine I ?_
 exact fs ⟨cm,mq,cr,ly,cx,aye.heap.size,lp,cf,U,w5,w7,w8,w9,aol,(λ_=>rfl),aon,(λx=>by have:=nq x;omega),(λx=>by have:=ns x;omega),(λ_=>⟨by omega,by omega⟩),aox,(λx _=>by have:=nq x;omega),(λx _=>by have:=ns x;omega),arw,(λayh=>(ab ny (ao0 ayh))),(λatk atl=>⟨(ab ny ((ao1 atk atl).1)),(ao1 atk atl).2⟩),(λatm atn=>⟨(ab ny ((apa atm atn).1)),(apa atm atn).2⟩),(λayi=>ff (bG aru (i:=24) (j:=25) Z arv) ayi),asn,(λayj=>(ab ny (aor ayj))),(λato atp=>⟨(ab ny ((apb ato atp).1)),(apb ato atp).2⟩),(λayk=>ff (bG aru (i:=24) (j:=25) Z arv) ayk),aso,(λayl=>(ab ny (aos ayl))),(λatq atr=>⟨(ab ny ((apc atq atr).1)),(apc atq atr).2⟩),(λaym=>ff (bG aru (i:=24) (j:=25) Z arv) aym),arx,aqv,(λatt atu=>⟨(ab ny ((aot att atu).1)),(aot att atu).2⟩),(λatv atw=>⟨(ab ny ((ao2 atv atw).1)),(ao2 atv atw).2⟩),(λatx aty=>⟨(ab ny ((apd atx aty).1)),(apd atx aty).2⟩),(λayn=>ff (bG aru (i:=24) (j:=25) Z arv) ayn),(λayo ayp=>(ab ny (ape ayo ayp))),(λayq ayr=>(ab ny (ao3 ayq ayr))),(λ_ _=>ayg)⟩;refine fU (λ_ _ _ ays aqf aqw oq=>?_) ?_
 obtain⟨cm,mq,cr,ly,cx,lr,lp,cf,zst,w5,w7,w8,w9,aol,aom,aon,nq,ns,nv,aox,aoy,aoz,np,ao0,ao1,apa,apv,p6,aor,apb,apw,r8,aos,apc,apx,nm,sc,aot,ao2,apd,apy,ape,ao3,aou⟩:=ays;have ayt:=aom (oq 24 Z);have a6t:=bz cf;have asi:=nq (aqf 10 9 Z (aqf 20 10 Z (oq 20 Z)));have atf:=ns (aqf 20 19 Z (oq 20 Z));have ayu:=nv (oq 24 Z);have aqx:=np;obtain⟨ary,ayv,ayw,atz,ayx,ayy,ayz,ay0⟩:=apa (oq 20 Z) aqw;have arz:=p6;obtain⟨at0,at1,at2,at3,at4,at6⟩:=apb (oq 20 Z) aqw;have ar0:=r8;obtain⟨ar1,ay1,ay2,ay3,at7,ay4,ay5,ay6,ay7⟩:=apc (oq 20 Z) aqw;have aqy:=nm;have a6v:=bt aqy;have aqz:=sc;obtain⟨ar2,at8,ay8⟩:=apd (oq 20 Z) aqw;have ay9:=aou (oq 24 Z) aqw;refine AP at0 (aa7 ay9) (λasp _ aza apg ap1=>?_) (h1:=Ro (bP aqz));have azb:=aR ap1 at1 (bt aqx);have azc:=aR ap1 at2 (bt aqy);have azd:∀jx,jx<i9x->ay asp (H2 jx):=λjx hi=>ab0 ap1 (at4 jx hi) (Wr.own arz jx hi);have aze:∀jx,jx<i9x->ay asp (H3 jx):=λjx hi=>ab0 ap1 (at6 jx hi) (Wr.own ar0 jx hi);have aqx:=aa2 apg (λe=>at1 e.symm) aqx;have azf:=ab0 ap1 (aa5 atz) ary;have ary:=ab3 (aa5 atz) apg ary;have arz:=ad4 apg at4 arz;have ar0:=ad4 apg at6 ar0;have azg:=ab0 ap1 (aa5 at7) ar1
 have ar1:=ab3 (aa5 at7) apg ar1;have aqy:=aa2 apg (λe=>at2 e.symm) aqy;have azh:=ab0 ap1 at3 aqz;have aqz:=ab3 at3 apg aqz;have azi:=ab0 ap1 (aa5 at8) ar2;have ar2:=ab3 (aa5 at8) apg ar2;have cf:=bu at0 U U cf apg;have a6x:=apg.size;refine I ?_;exact fs ⟨cm,mq,cr,ly,cx,lr,asp,cf,U,w5,w7,w8,w9,aol,aom,(λ_=>rfl),(λx=>by have:=nq x;omega),(λx=>by have:=ns x;omega),(λx=>by have:=nv x;omega),aox,aoy,aoz,aqx,(λazj=>tf (aqf 20 10 Z (oq 20 Z)) azj),(λ_ azk=>tf (oq 20 Z) azk),(λ_ azl=>tf Z azl),(λ_=>⟨ary,ayv,ayw,ayx,ayy,ayz,ay0⟩),arz,(λazm=>tf (oq 20 Z) azm),(λ_ azn=>tf Z azn),(λ_=>⟨aza,azb,azc,azf,azg,azh,azi,azd,aze⟩),ar0,(λazo=>tf (oq 20 Z) azo),(λ_ azp=>tf Z azp),(λ_=>⟨ar1,ay1,ay2,ay3,ay4,ay5,ay6,ay7⟩),aqy,aqz,(λ_ azq=>tf (aqf 20 10 Z (oq 20 Z)) azq),(λ_ azr=>tf (oq 20 Z) azr),(λ_ azs=>tf Z azs),(λ_=>⟨ar2,ay8⟩),(λ_ azt=>tf (aqf 20 10 Z (oq 20 Z)) azt),(λ_ azu=>tf (oq 20 Z) azu),(λ_ azv=>tf Z azv)⟩;refine sf ?_;rintro asq _ _ aph ⟨cm,mq,cr,ly,cx,lr,lp,cf,zst,w5,w7,w8,w9,aol,aom,aon,nq,ns,nv,aox,aoy,aoz,np,ao0,ao1,apa,apv,p6,aor,apb,apw,r8,aos,apc,apx,nm,sc,aot,ao2,apd,apy,ape,ao3,aou⟩;have asi:=nq (aph 9 Z)
 have atf:=ns (aph 19 Z);have ayu:=nv (aph 24 Z);have ap2:=np;obtain⟨ap3,azw,ar3,azx,azy,azz,az0⟩:=apv (aph 25 Z);have ap4:=p6;obtain⟨ap5,az1,ar4,az2,az3,az4,az5,az6,az7⟩:=apw (aph 25 Z);have ap6:=r8;obtain⟨ap7,az8,ar5,az9,a0a,a0b,a0c,a0d⟩:=apx (aph 25 Z);have at9:=nm;have a7h:=bt at9;have ap8:=sc;obtain⟨ao7,_⟩:=apy (aph 25 Z);have a0e:asq 78=cr:=(w8 (aph 10 Z));refine aa (cJ (b:=cy.heap.size) (o:=0) (v:=cr) zt Z a0e (bP ap3) at9 (qa3 Z) (λ_ api a0f=>?_));have ap2:=pb api ap2;have ap3:=aw api ar3 ap3;have ap4:=ab9 api U ap4;have ap5:=aw api ar4 ap5;have ap6:=ab9 api U ap6;have ap7:=aw api ar5 ap7;have ap8:=aw api aql ap8;have ao7:=aw api (λe=>by have:=aS ao7 _ e;omega) ao7;have cf:=bi api cf;have a7k:=gJ api;refine I ?_;have a0g:asq 88=cx:=(aol (aph 20 Z));refine aa (cJ (b:=cy.heap.size) (o:=1) (v:=cx) mf Z a0g (bP ap7) a0f (qa3 Z) (λ_ apj a0h=>?_));have ap2:=pb apj ap2;have ap3:=aw apj ar3 ap3;have ap4:=ab9 apj U ap4;have ap5:=aw apj ar4 ap5;have ap6:=ab9 apj U ap6;have ap7:=aw apj ar5 ap7;have ap8:=aw apj aql ap8;have ao7:=aw apj (λe=>by have:=aS ao7 _ e;omega) ao7;have cf:=bi apj cf
 have a7m:=gJ apj;refine I ?_;have a0i:asq 93=lp:=(aon (aph 25 Z));refine aa (cJ (b:=cy.heap.size) (o:=2) (v:=lp) zt Z a0i (bP ap5) a0h (qa3 Z) (λaua apk a0j=>?_));have ap2:=pb apk ap2;have ap3:=aw apk ar3 ap3;have ap4:=ab9 apk U ap4;have ap5:=aw apk ar4 ap5;have ap6:=ab9 apk U ap6;have ap7:=aw apk ar5 ap7;have ap8:=aw apk aql ap8;have ao7:=aw apk (λe=>by have:=aS ao7 _ e;omega) ao7;have cf:=bi apk cf;have a7n:=gJ apk;refine I ?_;refine fO (I ?_);have hkm:=pe.km i9x hlo;have hce:ac=KC i9x:=Bc (by rw[pe.cl i9x hlo];omega) (λk hk=>by rw[pe.ce i9x hlo k U];exact hacf k U);have a0k:World.ownsRow aua wr.heap.size 33 2 cm (KM i9x).length (ag (KM i9x)):=by rw[hkm];exact ao7
 have a0l:=bM (lo':=cv.heap.size) U a0k;have a0m:∀j,j<i9x->ay cm (H2 j):=Wr.far ap4 ao7 U;have a0n:World.ownsRow aua aqe.heap.size 33 2 vrow (KC i9x).length (ag (KC i9x)):=by rw[<-hce];exact ap8
 have a0o:=bM (lo':=cv.heap.size) U a0n;have a0p:∀j,j<i9x->ay vrow (H3 j):=Wr.far ap6 ap8 U;refine I ?_;exact bF ⟨i9x+1,bO H2 i9x cm,cr,bO H3 i9x vrow,lp,acY++[ao ys (rl.getD i9x 0)],cx,rfl,rfl,U,(λj hj=>dX azz azy j hj),(λj hj=>dX az0 azx j hj),(λj hj=>dX az6 az5 j hj),(λj hj=>dX az7 az4 j hj),(λj hj=>dX a0c a0b j hj),(λj hj=>dX a0d a0a j hj),KK,(td (f:=λj=>ao ys (rl.getD j 0)) halY hacY),U,azw,ar3,az1,ar4,az8,ar5,(aa5 az2),(aa5 az9),az3,cf,ap2,(aP ap3 Z (ek H2 i9x cm).symm),(by have h:=Wr.push ap4 a0l a0m;rwa [kY]at h),(aP ap5 Z (ek H3 i9x vrow).symm),(by have h:=Wr.push ap6 a0o a0p;rwa [kY]at h),(aP ap7 Rg (dv _ (ao ys (rl.getD i9x 0)))),a0j⟩;have hi9:i9x=KY.length:=J
 subst hi9;have hye:acY=KY:=Bc U (λk hk=>by rw[hacY k U,pe.ye k U]);subst hye;have aqd:ar wr cy.heap.size 30 #[.slice (sA vm) acY.length (sC vm),.slice (sA vy) acY.length (sC vy),.slice (sA vc) acY.length (sC vc)]:=by rw[<-dk hout,<-dk hout3,<-dk hyrow];exact fx
 have hmm:=Wr.mt hwr (fE hout);have hmc:=Wr.mt hwr3 (fE hout3);have hmy:=fE hyrow;have hmk:=lH hout3;have ap9:=ab2 hmm;have aqa:=ab2 hmc;have aqb:=ab5 hmy;refine I ?_;(try refine aa (aN (cs:=[.slice (sA vm) acY.length (sC vm),.slice (sA vy) acY.length (sC vy),.slice (sA vc) acY.length (sC vc)]) (b:=cy.heap.size) (o:=0) de Z ba Z (aa0 aqd (i:=0) Z) ?_));refine cl kt (gV (ap9).mt (dP okq.hv) (aqb).rw (aqa).mt (dP okq.hv3) hmk okq.hv okq.hv3 okq.hVl okq.hLl okq.hyo okq.hp (ht.ext lq)) ?_;rintro _ _ aqg rfl;have⟨cw,aqd⟩:=dN aqg.2 cw aqd;have ap9:=aa4 aqg.2 ap9;have aqa:=aa4 aqg.2 aqa;have aqb:=aa9 aqg.2 aqb;have lq:=xt lq aqg.2;refine cl fp df ?_;rintro _ _ aqh rfl;have⟨cw,aqd⟩:=dN aqh.2 cw aqd;have ap9:=aa4 aqh.2 ap9;have aqa:=aa4 aqh.2 aqa;have aqb:=aa9 aqh.2 aqb;have lq:=xt lq aqh.2;refine I ?_;(try refine aa (aN (cs:=[.slice (sA vm) acY.length (sC vm),.slice (sA vy) acY.length (sC vy),.slice (sA vc) acY.length (sC vc)]) (b:=cy.heap.size) (o:=0) de Z ba Z (aa0 aqd (i:=0) Z) ?_))
 refine aa (aZ (b:=cy.heap.size) (o:=0) (vs:=[.slice (sA vm) acY.length (sC vm),.slice (sA vy) acY.length (sC vy),.slice (sA vc) acY.length (sC vc)]) ba Z Z Nd aqd (qa3 Z) (λ_ aqi a0q=>?_));have cw:=pb aqi cw;have ap9:=ad0 aqi U ap9;have aqa:=ad0 aqi U aqa;have aqb:=ab8 aqi U aqb;have lq:=bi aqi lq;refine I ?_;refine aW (v:=.agg #[.slice (sA vm) acY.length (sC vm),.slice (sA vy) acY.length (sC vy),.slice (sA vc) acY.length (sC vc)]) (ci  rfl ?_) lq ⟨_,_,_,_,_,_,rfl,⟨⟨_,((ap9).mt).mono U⟩,((aqb).rw).mono U,⟨_,((aqa).mt).mono U⟩,hmk⟩⟩;refine ai (t:=4) (cs:=[.slice (sA vm) acY.length (sC vm),.slice (sA vy) acY.length (sC vy),.slice (sA vc) acY.length (sC vc)]) (b:=cy.heap.size) (o:=0) de Z ba ?_ ?_;exact Z;exact aa0 a0q (i:=0) Z
def L9 {lb:List Value}{KM KC:Rows}{KY:List R}(hg:Enters prog gf)(hc:∀W,aO w W->CL gf lb.toArray W (aH W λv w'=>∃A C Y CY B CB,v=.agg #[.slice A KY.length C,.slice Y KY.length CY,.slice B KY.length CB]/\ig W.heap.size w' A C Y CY B CB KM KC KY)):
 CL 51 #[.func (.func gf) #[] lb.toArray] w (aH w λv w'=>∃u,v=.tuple #[u,.int .i64 0]/\∃A C Y CY B CB,u=.agg #[.slice A KY.length C,.slice Y KY.length CY,.slice B KY.length CB]/\ig w.heap.size w' A C Y CY B CB KM KC KY):=by
 refine l9 func51 Z (I ?_);refine al dW (λA0 As G=>?_);have E:=As.2;refine al l5 (λ_ nm O=>?_);have⟨G,E⟩:=bo nm.2 G E;refine I ?_;refine aa (aC (vf:=[]) (vc:=[pT w.heap.size,pT A0.heap.size]) Z Z ?_);refine aa (hH (lb:=[pT w.heap.size,pT A0.heap.size]) Z ?_);refine I ?_;refine aa (mg (f:=gf) (lb:=lb) (vs:=[]) hg Z Z (hc _ E) ?_);rintro _ _ Aw ⟨A1,Ap,Ar,Af,Am,Ab,rfl,H⟩;have⟨G,O,E⟩:=ca Aw.2 G O E;refine aa (aZ (b:=w.heap.size) (o:=0) (vs:=[.slice A1 KY.length Ap,.slice Ar KY.length Af,.slice Am KY.length Ab]) ba Z Z Nd G (qa3 Z) (λ_ Aq A2=>?_));have O:=pb Aq O;have H:=ig.put Aq U H;have E:=bi Aq E;refine SO O (λ_ Ao Av=>?_);have A2:=pb Ao A2;have H:=ig.put Ao U H;have E:=bi Ao E;refine I ?_;refine mU (b1:=w.heap.size) (b2:=A0.heap.size) (v:=.tuple #[.agg #[.slice A1 KY.length Ap,.slice Ar KY.length Af,.slice Am KY.length Ab],.int .i64 0]) Td (λ_ _=>Kr) E (c8 (r1:=.cell 2 30) (r2:=.cell 3 36) Z ?_ ?_) ⟨_,rfl,_,_,_,_,_,_,rfl,ig.mono U H⟩;refine ai (t:=2) (cs:=[.slice A1 KY.length Ap,.slice Ar KY.length Af,.slice Am KY.length Ab]) (b:=w.heap.size) (o:=0) de Z ba ?_ ?_;exact Z
 exact aa0 A2 (i:=0) Z;refine bH (t:=3) (b:=A0.heap.size) (o:=0) BY Z ?_ ?_;exact Z;exact ab6 Av Z
def Ma {L V:Rows}{ys:List R}(hD:eH w A C Y CY B CB L V ys)(ok:eN L V ys)(hb:ar w b 30 #[.slice A ys.length C,.slice Y ys.length CY,.slice B ys.length CB]){KM KC:Rows}{KY:List R}(hb2:ar w b2 22 #[.slice qr rl.length CR])(hR:Rw w lo5 qr (ints rl))(pe:qj L V ys rl KM KC KY)(okq:eN KM KC KY)(ht:Tb w):
 CL 52 #[pT b,pT b2] w (aH w λv w'=>∃A C Y CY B CB,v=.agg #[.slice A KY.length C,.slice Y KY.length CY,.slice B KY.length CB]/\ig w.heap.size w' A C Y CY B CB KM KC KY):=by
 obtain⟨_,H,hM⟩:=hD.m;obtain⟨_,hy⟩:=hD.y;obtain⟨_,G,hV⟩:=hD.v;have Ay:=bt hb;have Ax:=bt hb2;refine aD func52 Z (I ?_);refine al dW (λ_ Aq O=>?_);have⟨hb,hb2⟩:=dN Aq.2 hb hb2;have E:=Aq.2;refine I ?_;(try refine aa (aN (cs:=[.slice A ys.length C,.slice Y ys.length CY,.slice B ys.length CB]) (b:=b) (o:=0) de Z ba Z (aa0 hb (i:=0) Z) ?_));refine cl kt (gV (hM.ext E) (dP ok.hv) (hy.ext E) (hV.ext E) (dP ok.hv3) hD.c ok.hv ok.hv3 ok.hVl ok.hLl ok.hyo ok.hp (ht.ext E)) ?_;rintro _ _ Av rfl;have⟨hb,hb2,O,E⟩:=fw Av.2 hb hb2 O E;refine cl fp df ?_;rintro _ _ As rfl;have⟨hb,hb2,O,E⟩:=fw As.2 hb hb2 O E;refine I ?_;(try refine aa (aN (cs:=[.slice A ys.length C,.slice Y ys.length CY,.slice B ys.length CB]) (b:=b) (o:=0) de Z ba Z (aa0 hb (i:=0) Z) ?_));refine aa (bX (vs:=[(0,.agg #[.slice A ys.length C,.slice Y ys.length CY,.slice B ys.length CB])]) (cells:=#[.slice A ys.length C,.slice Y ys.length CY,.slice B ys.length CB]) (pl:=[(0,3)]) j5 na Hx Z Hx ?_);refine I ?_;refine cl S4 (L8 (hD.ext E) ok (hR.ext E) pe okq (ht.ext E)) ?_;rintro _ _ Aw ⟨Am,A1,Ao,Ap,Ab,Af,rfl,A2⟩;have⟨hb,hb2,O,E⟩:=fw Aw.2 hb hb2 O E
 refine aa (aZ (b:=w.heap.size) (o:=0) (vs:=[.slice Am KY.length A1,.slice Ao KY.length Ap,.slice Ab KY.length Af]) ba Z Z Nd O (qa3 Z) (λ_ A0 Ar=>?_));have⟨hb,hb2⟩:=js A0 hb hb2;have A2:=ig.put A0 U A2;have E:=bi A0 E;refine I ?_;refine aW (v:=.agg #[.slice Am KY.length A1,.slice Ao KY.length Ap,.slice Ab KY.length Af]) (ci  rfl ?_) E ⟨_,_,_,_,_,_,rfl,ig.mono U A2⟩;refine ai (t:=2) (cs:=[.slice Am KY.length A1,.slice Ao KY.length Ap,.slice Ab KY.length Af]) (b:=w.heap.size) (o:=0) de Z ba ?_ ?_;exact Z;exact aa0 Ar (i:=0) Z
def y0 {L V:Rows}{ys:List R}(hD:eH w A C Y CY B CB L V ys)(ok:eN L V ys){KM KC:Rows}{KY:List R}(hR:Rw w lo5 qr (ints rl))(pe:qj L V ys rl KM KC KY)(okq:eN KM KC KY)(ht:Tb w):
 CL 22 #[.agg #[.slice A ys.length C,.slice Y ys.length CY,.slice B ys.length CB],.slice qr rl.length CR] w (aH w λv w'=>∃u,v=.tuple #[u,.int .i64 0]/\∃A C Y CY B CB,u=.agg #[.slice A KY.length C,.slice Y KY.length CY,.slice B KY.length CB]/\ig w.heap.size w' A C Y CY B CB KM KC KY):=by
 obtain⟨_,H,_⟩:=hD.m;obtain⟨_,_⟩:=hD.y;obtain⟨_,G,_⟩:=hD.v;refine aD func22 Z (I ?_);refine bx (λAs Ax O=>?_);have E:=Ax.2;refine bx (λnm Av A0=>?_);have⟨O,E⟩:=bo Av.2 O E;refine al dW (λ_ Ay Ab=>?_);have⟨O,A0,E⟩:=ca Ay.2 O A0 E;refine I ?_;refine aa (aC (vf:=[]) (vc:=[pT w.heap.size,pT As.heap.size]) Z Z ?_);refine cl S2 (L9 (gf:=52) (lb:=[pT w.heap.size,pT As.heap.size]) S3 (λW q=>Ma (hD.ext (xt E q)) ok (be q O) (be q A0) (hR.ext (xt E q)) pe okq (ht.ext (xt E q)))) ?_;rintro _ _ Aw ⟨B0,rfl,Ao,Af,Ap,A1,Aq,Ar,rfl,A2⟩;have⟨O,A0,Ab,E⟩:=fw Aw.2 O A0 Ab E;refine I ?_;refine aa (aZ (b:=nm.heap.size) (o:=0) (vs:=[.slice Ao KY.length Af,.slice Ap KY.length A1,.slice Aq KY.length Ar]) ba Z Z Nd Ab (qa3 Z) (λ_ Am Az=>?_));have⟨O,A0⟩:=js Am O A0;have A2:=ig.put Am U A2;have E:=bi Am E;refine I ?_;refine aW (v:=.tuple #[.agg #[.slice Ao KY.length Af,.slice Ap KY.length A1,.slice Aq KY.length Ar],.int .i64 0]) (c8 (r1:=.cell 4 30) (r2:=.tmp 5) Z ?_ ?_) E ⟨_,rfl,_,_,_,_,_,_,rfl,ig.mono U A2⟩
 refine ai (t:=4) (cs:=[.slice Ao KY.length Af,.slice Ap KY.length A1,.slice Aq KY.length Ar]) (b:=nm.heap.size) (o:=0) de Z ba ?_ ?_;exact Z;exact aa0 Az (i:=0) Z;exact aM (t:=5) RM _
end
section
open Go Go.Eng Go.RowKit Tryz
structure j4 (n:Nat)(zl:World->Prop):Prop where
 ext:∀{A B:World},aO A B->zl A->zl B
 put:∀{A B:World} {b:Nat},ee A B b->n<=b->zl A->zl B
structure jh (bs:List Nat)(W W':World):Prop where
 size:W.heap.size<=W'.heap.size
 blk:∀{b:Nat} {t:TypeId} {cs:Array Value},b∉bs->ar W b t cs->ar W' b t cs
def jh.trans {A B C:World}(h:jh bs A B)(k:jh bs B C):jh bs A C:=⟨qa8 h.size k.size,λE hb=>k.blk E (h.blk E hb)⟩
def jh.of {A B:World}(h:eL bs A B):jh bs A B:=⟨h.size,λE hb=>h.blk E hb⟩
def jh.putObj {A:World}{r r':Loop}(h:A.heap[b]?=some (.loop r)):jh bs A (A.putObj b (.loop r')):=
 ⟨by simp,fun{c t cs} _ hb=>(World.putObj_heap_other (λe=>by subst e;unfold ar at hb;rw[h]at hb;cases hb)).trans hb⟩
def dt (W:World)(b:Nat)(o:Obj):ee W (W.putObj b o) b:=⟨rfl,rfl,rfl,by simp,λk hk=>World.putObj_heap_other hk⟩
def RR (P:Program)(gf:Nat)(lb:List Value)(enc:Nat->List Value)(bs:List Nat)(Kq:World->Prop)(M:Nat)(w:World):Prop:=
 ∀ (l:Nat) (JT Jx:Nat->World->Prop) (W:World),Below w.heap.size w W->(∀k,j4 W.heap.size (JT k))->(∀k,j4 W.heap.size (Jx k))->(∀k W1,JT k W1->k<M)->
  (∀k W1,JT k W1->YieldAt Fence.wide 7 P l (enc k).toArray W1 λe W'=>(e=.returned (.bool true)/\JT (k+1) W'/\jh bs W1 W'/\(Kq W1->Kq W'))\/(e=.returned (.bool false)/\Jx (k+1) W'))->
  JT 0 W->CallsIn Fence.wide 8 P gf (#[.func (.yield l) #[] #[]]++lb.toArray) W λe W'=>(∃v,e=.returned v)/\∃k,Jx k W'
def ZI (bs:List Nat)(Kq:World->Prop)(zl:Nat->World->Prop)(Ix:Code->Nat->World->Prop)(k:Nat)(W:World):Exit->Act->World->Prop
 | .normal,_,W'=>KeepsOthers W W'/\jh bs W W'/\(Kq W->Kq W')/\zl k W'
 | .ret,_,W'=>KeepsOthers W W'/\Ix .ret k W'
 | .exit id,_,W'=>KeepsOthers W W'/\Ix (.exit id) k W'
 |_,_,_=>False
def wm (W:World)(b:Nat)(r:Loop):Prop:=W.heap[b+1]?=some (.loop r)/\W.heap[b]?=some (.deferred (some []))
def wm.put {r:Loop}(h:wm W b r)(r':Loop):wm (W.putObj (b+1) (.loop r')) b r':=
 ⟨World.putObj_heap_same (Array.getElem?_eq_some_iff.1 h.1).1,(World.putObj_heap_other J).trans h.2⟩
def wm.kept {r:Loop}(h:wm W b r)(k:KeepsOthers W W'):wm W' b r:=⟨k.same _ _ h.1 Z,k.same _ _ h.2 Z⟩
def wm.stab {r:Loop}(h:b+1<n):j4 n λW=>wm W b r:=
 ⟨λk h=>⟨k.heap h.1,k.heap h.2⟩,λk hb h=>⟨(k.block _ J).trans h.1,(k.block _ J).trans h.2⟩⟩
def j4.and {zl JT:World->Prop}(h:j4 n zl)(k:j4 n JT):j4 n λW=>zl W/\JT W:=⟨λe x=>⟨h.ext e x.1,k.ext e x.2⟩,λe l x=>⟨h.put e l x.1,k.put e l x.2⟩⟩
def j4.ex {α:Type}{zl:α->World->Prop}(h:∀a,j4 n (zl a)):j4 n λW=>∃a,zl a W:=⟨λe ⟨a,x⟩=>⟨a,(h a).ext e x⟩,λe l ⟨a,x⟩=>⟨a,(h a).put e l x⟩⟩
def j4.mono {m:Nat}{zl:World->Prop}(h:j4 n zl)(hl:n<=m):j4 m zl:=⟨h.ext,λk hb=>h.put k (qa8 hl hb)⟩
def Mb {e:Nat->Value}{Q:Exit->Act->World->Prop}{enc:Nat->List Value}{Kq:World->Prop}{lb:List Value}{g:Operand}{assign body:Code}(hg:ev N e g=.func (.func gf) #[] lb.toArray)(eg:Enters P gf)(hit:RR P gf lb enc bs Kq M w)(hKq:j4 w.heap.size Kq)(hps:∀i,(enc i).length=ps.length)(zl:Nat->World->Prop)(Ix:Code->Nat->World->Prop)(hI:∀k,j4 w.heap.size (zl k))(hIx:∀c k,j4 w.heap.size (Ix c k))(hM:∀k W,zl k W->k<M)(h0:zl 0 w)(A:(Nat->Value)->Nat->(Nat->Value)->World->Prop)(hA:∀k e' W b r r',w.heap.size<=b->W.heap[b]?=some (.loop r)->A e k e' W->A e k e' (W.putObj b (.loop r')))(hassign:∀l k W K,zl k W->(∀e' W',aO W W'->A e k e' W'->K (act N e' []) W')->assign.wpIn (Fw (some l)) 7 P (Exit.then K (λ_ _ _=>False)) (act N (ku e ps (enc k)) []) W)(hbody:∀l k e' W,A e k e' W->body.wpIn (Fw (some l)) 7 P (ZI bs Kq zl Ix (k+1) W) (act N e' []) W)(hstop:∀D c k W,w.heap.size<=D->Ix c k W->lv W D->c.wpIn (Fw none) 9 P Q (act N e (⟨.collected D,#[]⟩::ds)) W):
 (Code.rangeFunc g ps.toArray assign body).wpIn (Fw none) 9 P Q (act N e ds) w:=by
 refine wpIn_rangeFunc (F:=Fence.wide) (n:=9) λfn Ab=>?_
 obtain⟨R,hR⟩:∃R:LoopState->Option Code->Loop,R=λAm Ap=>{state:=Am,pending:=Ap,fn,tmps:=(act N e ds).tmps,params:=ps.toArray,assign,body,defers:=w.heap.size}:=⟨_,rfl⟩
 obtain⟨V,hV⟩:∃V,(w.alloc (.deferred (some []))).alloc (.loop (R .ready none))=V:=⟨_,rfl⟩
 have hB:wm V w.heap.size (R .ready none):=by
  refine⟨?_,?_⟩ <;>rw[<-hV]
  · have h:=World.alloc_heap_new (w.alloc (.deferred (some []))) (.loop (R .ready none));rwa [World.size_alloc]at h
  · exact(Below.heap_alloc _ _ _ Rg).trans (World.alloc_heap_new w _)
 have O:w.heap.size+1<V.heap.size:=by rw[<-hV];simp
 have A0:Below w.heap.size w V:=by rw[<-hV];exact((Below.refl _ w).alloc (qa0 _) _).alloc Rg _
 have hI0:zl 0 V:=(hI 0).ext A0 h0
 refine⟨w.heap.size+1,[⟨.collected w.heap.size,#[]⟩],V,⟨.fn (.func gf) lb.toArray,#[.func (.yield (w.heap.size+1)) #[] #[]]⟩,V,gf,#[.func (.yield (w.heap.size+1)) #[] #[]]++lb.toArray,V,?_,?_,?_,?_,λ_=>by omega,?_⟩
 · rw[<-hV,hR];exact run_enterLoop_outer _ _ _ _ _
 · have hg':(act N e ds).eval g=.func (.func gf) #[] lb.toArray:=by rw[cW];exact hg
   simp only[resolve,hg'];simp[go_sem]
 · intro Ar _;trivial
 · simp[invoke,go_sem];exact eg _ _
 refine(hit (w.heap.size+1) (λk W=>zl k W/\wm W w.heap.size (R .ready none)) (λk W=>∃c,Ix c k W/\wm W w.heap.size (R .done (some c))) V A0
  (λk=>((hI k).mono J).and (wm.stab O)) (λk=>j4.ex λc=>((hIx c k).mono J).and (wm.stab O)) (λk W h=>hM k W h.1) ?_ ⟨hI0,hB⟩).mono ?_
 ·
  rintro k W ⟨hi,hk⟩
  have hy:=run_yield (P:=P) (args:=(enc k).toArray) hk.1 (by rw[hR];simpa using hps k)
  rw[hR]at hy
  refine⟨fn,_,assign,body,hy,roundIn_of_wpIn Ab ?_⟩
  have hfold:(⟨(ps.toArray.zip (enc k).toArray).foldl (λt (p,v)=>t.setIfInBounds p v) (act N e ds).tmps,[]⟩:Act)=act N (ku e ps (enc k)) []:=by
   have h:=o9 N ps (enc k) e
   have h2:act N (ku e ps (enc k)) []=⟨(act N (ku e ps (enc k)) []).tmps,[]⟩:=rfl
   rw[h2,<-h]
   simp only[List.zip_toArray,List.foldl_toArray]
   rfl
  rw[hfold]
  refine hassign (w.heap.size+1) k W _ hi λe' W' hx A2=>?_
  have hk:wm W' w.heap.size (R .ready none):=⟨hx.heap hk.1,hx.heap hk.2⟩
  refine⟨_,run_beginRound hk.1 (by rw[hR]),?_⟩
  have A1:=hk.put {R .ready none with state:=.busy}
  refine wpIn_mono (hbody (w.heap.size+1) k e' _ (hA k e' _ _ _ _ J hk.1 A2)) ?_
  have Ao:jh bs W W':=⟨hx.size,λ_ h=>h.ext hx⟩
  have H:∀(j:Option Code) (W3:World),KeepsOthers (W'.putObj (w.heap.size+1) (.loop {R .ready none with state:=.busy})) W3->
   wm W3 w.heap.size {R .ready none with state:=.busy}/\(Instr.endRound (w.heap.size+1) j).run P W3=.ok (.bool j.isNone) (W3.putObj (w.heap.size+1) (.loop (R (if j.isNone then .ready else .done) j))):=λj W3 h3=>by
   have h4:=A1.kept h3
   refine⟨h4,?_⟩
   have E:=run_endRound (P:=P) j h4.1
   rw[hR]at E ⊢
   exact E
  rintro x Aq W3 G
  cases x with
  | normal=>
    obtain⟨h1,Af,h2,h3⟩:=G
    obtain⟨h4,E⟩:=H none W3 h1
    exact⟨_,_,E,.inl ⟨rfl,⟨(hI _).put (dt _ _ _) J h3,h4.put _⟩,Ao.trans (((jh.putObj hk.1).trans Af).trans (jh.putObj h4.1)),λh=>hKq.put (dt _ _ _) J (h2 (hKq.put (dt _ _ _) J (hKq.ext hx h)))⟩⟩
  | ret=>
    obtain⟨h1,h3⟩:=G
    obtain⟨h4,E⟩:=H (some .ret) W3 h1
    exact⟨_,_,E,.inr ⟨rfl,.ret,(hIx _ _).put (dt _ _ _) J h3,h4.put _⟩⟩
  | exit id=>
    obtain⟨h1,h3⟩:=G
    obtain⟨h4,E⟩:=H (some (.exit id)) W3 h1
    exact⟨_,_,E,.inr ⟨rfl,.exit id,(hIx _ _).put (dt _ _ _) J h3,h4.put _⟩⟩
  |goto t=>exact G.elim
  |panic c=>exact G.elim
  |outgrown=>exact G.elim
 · rintro x W2 ⟨⟨v,rfl⟩,k,c,hi,hk⟩
   have h:=run_endLoop (P:=P) hk.1 (by rw[hR];simp)
   rw[hR]at h
   refine⟨some c,_,h,hstop _ c k _ (qa0 _) ((hIx c k).put (dt _ _ _) J hi) (hk.put _).2⟩
structure m7 (w w':World)(base:Nat)(el:TypeId)(v v':Value)(k:Nat)(xs:List Value)(x:Value):Prop where
 own:w'.ownsRow base el 1 v' (k+1) (xs++[x])
 how:(aO w w'/\v'.ownBlock=some w.heap.size)\/∃g cap,v=.slice (some ⟨g,0,none⟩) k cap/\v'=.slice (some ⟨g,0,none⟩) (k+1) cap/\ee w w' g
def Mc {t ty el:TypeId}{z:Value}{v x:Value}(hu:P.underlying t=some (.slice el))(hi:gu P el z 1 bytes)(hz:z.cells.size=1)(hown:w.ownsRow base el 1 v k xs)(hr:Rw w lo (some ⟨b,0,none⟩) [x])(hx1:x.oneCell'=true)(hk:k<=1000)(hby:bytes<=1000)(hbase:base<=w.heap.size):
 ∃v' w',(Builtin.append_ #[t,t] ty #[v,.slice (some ⟨b,0,none⟩) 1 1]).run P w=.ok v' w'/\m7 w w' base el v v' k xs x:=by
 obtain⟨i,H,O,E,A0⟩:=hi.parts
 have hl:[x].length=1*i.size:=by rw[E];rfl
 have hnews:∀j u,[x][j]? =some u->w.cell? ((⟨b,0,none⟩:Addr).add j)=some u:=λj u hu=>by
  obtain⟨_,_,hA,hc⟩:=hr.cells j u hu;cases hA;rw[Addr.add_mid];exact hc
 have h1:∀u∈[x],u.oneCell'=true:=λu h=>by rw[List.mem_singleton.1 h];exact hx1
 have A1:(k+1)*bytes<=140737488355328:=qa8 (qb9 (show k+1<=1001 by omega) hby) dc
 obtain⟨v',w',G,h2,_,_,_⟩:=run_append_own_at (P:=P) w base t ty el i z 1 bytes hu H O E A0 hz dc v k xs hown ⟨b,0,none⟩ 1 1 [x] Rg hnews h1 CA A1 hbase
 refine⟨v',w',G,h2,?_⟩
 rcases hown.2 with⟨rfl,rfl⟩|⟨g,cap,cur,rfl,hbg,hg,hnc,hcm,hcs,htake⟩
 · have e:=run_append_nil (P:=P) w t ty el i z hu H O ⟨b,0,none⟩ 1 1 [x] hl hnews dc dc (by rw[A0];omega)
   rw[G]at e
   injection e with e1 e2
   subst e1 e2
   exact .inl ⟨(ac3 w).trans (ae2 _ _),rfl⟩
 · by_cases hroom:k+1<=cap
   · have e:=run_append_room (P:=P) w t ty el i hu H g k cap cur hg ⟨b,0,none⟩ 1 1 [x] hl hnews h1 hroom (by rw[E,hcs];simp;omega)
     rw[G]at e
     injection e with e1 e2
     subst e1 e2
     exact .inr ⟨g,cap,rfl,rfl,⟨rfl,rfl,rfl,by simp,λc hc=>setRow_other w g c _ hc⟩⟩
   · have e:=run_append_grow (P:=P) w t ty el i z hu H O ⟨g,0,none⟩ k cap xs (by rw[hown.1,E]) (hown.cells (g:=g) Z) ⟨b,0,none⟩ 1 1 [x] hl hnews U U (growslice_fits U (by rw[A0];exact A1))
     rw[G]at e
     injection e with e1 e2
     subst e1 e2
     exact .inl ⟨(ac3 w).trans (ae2 _ _),rfl⟩
def bl (v:Value):List Nat:=match v.ownBlock with|some g=>[g]|none=>[]
section
variable {w1 W2:World}{n0 sz:Nat}{el:TypeId}{v v' x:Value}
def y5 (h:w.ownsRow base el sz v k xs)(kp:jh bs w W)(hb:∀g,v.ownBlock=some g->g∉bs):W.ownsRow base el sz v k xs:=by
 obtain⟨h1,h2|⟨g,cap,E,rfl,H,G,r⟩⟩:=h
 · exact⟨h1,.inl h2⟩
 · exact⟨h1,.inr ⟨g,cap,E,rfl,H,kp.blk (hb g Z) G,r⟩⟩
def P5 {cap:Nat}(h:W.ownsRow base el 1 (.slice (some ⟨g,0,none⟩) (k+1) cap) (k+1) (xs++[x]))(hl:xs.length=k):W.ownsRow base el 1 (.slice (some ⟨g,0,none⟩) k cap) k xs:=by
 obtain⟨h1,h2|⟨Ab,A2,G,e,A0,H,A1,O,E,htake⟩⟩:=h
 · exact absurd h2.1 Rg
 · injection e with e1 e2 e3
   injection e1 with e1
   injection e1 with e1
   subst e1 e3
   refine⟨by omega,.inr ⟨g,cap,G,rfl,A0,H,by omega,O,E,?_⟩⟩
   have h3:=qb2 (List.take (k*1)) htake
   rw[List.take_take,Nat.min_eq_left U,List.take_left' U]at h3
   exact h3
def y6 (h:w.ownsRow base el sz v k xs)(hg:v.ownBlock=some g):base<=g/\g<w.heap.size:=by
 obtain⟨_,h2|⟨O,cap,H,rfl,E,G,_⟩⟩:=h
 · rw[h2.1]at hg;cases hg
 · cases hg;exact⟨E,(Array.getElem?_eq_some_iff.1 G).1⟩
def vu :g∈bl v↔v.ownBlock=some g:=by
 unfold bl
 cases h:v.ownBlock with
 |none=>simp
 |some a=>simp[eq_comm]
def jh.ofE (k:aO w W):jh bs w W:=⟨k.size,λ_ h=>ad1 k h⟩
def m7.kpc (h:m7 w w1 base el v v' k xs x):jh (bl v) w w1:=by
 rcases h.how with⟨h1,_⟩|⟨g,cap,rfl,rfl,hp⟩
 · exact jh.ofE h1
 · exact⟨by rw[ee.size hp];exact qa0 _,λE hb=>ab1 hp (λe=>E (vu.2 (by rw[e];rfl))) hb⟩
def m7.inner (h:m7 w w1 base el v v' k xs x)(kp:jh (bl v') w1 W):jh (bl v) w W:=by
 refine⟨qa8 h.kpc.size kp.size,fun{b t cs} hn hb=>kp.blk (λhm=>?_) (h.kpc.blk hn hb)⟩
 have h2:=vu.1 hm
 rcases h.how with⟨_,h3⟩|⟨g,cap,rfl,rfl,_⟩
 · rw[h3]at h2;cases h2;have:=ar.lt hb;omega
 · exact hn (vu.2 h2)
def m7.back (h:m7 w w1 base el v v' k xs x)(hw:w.ownsRow base el 1 v k xs)(h2:W.ownsRow base el 1 v' (k+1) (xs++[x]))(kp:jh (bl v') w1 W):W.ownsRow base el 1 v k xs:=by
 rcases h.how with⟨h1,h3⟩|⟨g,cap,rfl,rfl,_⟩
 · refine y5 (ab h1 hw) kp (λg E hm=>?_)
   have:=vu.1 hm
   rw[h3]at this
   have:=(y6 hw E).2
   cases ‹some w.heap.size=some g›
   omega
 · exact P5 h2 (by have:=hw.1;omega)
def m7.stab {JT:World->Prop}(h:m7 w w1 base el v v' k xs x)(hw:w.ownsRow base el 1 v k xs)(hs:j4 n0 JT)(hb:n0<=base)(hj:JT w):JT w1:=by
 rcases h.how with⟨h1,_⟩|⟨g,cap,rfl,rfl,hp⟩
 · exact hs.ext h1 hj
 · exact hs.put hp (qa8 hb (y6 hw Z).1) hj
end
def RS (P:Program)(gf:Nat)(lb:List Value)(Pa:Nat->Value->World->Prop)(bs:List Nat)(M:Nat)(w:World):Prop:=
 ∀ (l:Nat) (JT Jx:Nat->World->Prop) (W:World),Below w.heap.size w W->(∀k,j4 W.heap.size (JT k))->
  (∀k v W1,k<M->JT k W1->Pa k v W1->YieldAt Fence.wide 7 P l #[v] W1 λe W'=>(e=.returned (.bool true)/\JT (k+1) W'/\jh bs W1 W')\/(e=.returned (.bool false)/\Jx (k+1) W'))->
  JT 0 W->CallsIn Fence.wide 8 P gf (#[.func (.yield l) #[] #[]]++lb.toArray) W λe W'=>(∃v,e=.returned v)/\(JT M W'\/∃k,Jx k W')
def ZJ (bs:List Nat)(zl:Nat->World->Prop)(Ix:Code->Nat->World->Prop)(k:Nat)(W:World):Exit->Act->World->Prop
 | .normal,_,W'=>KeepsOthers W W'/\jh bs W W'/\zl k W'
 | .ret,_,W'=>KeepsOthers W W'/\Ix .ret k W'
 | .exit id,_,W'=>KeepsOthers W W'/\Ix (.exit id) k W'
 |_,_,_=>False
def Bu {e:Nat->Value}{Q:Exit->Act->World->Prop}{Pa:Nat->Value->World->Prop}{lb:List Value}{g:Operand}{assign body:Code}(hg:ev N e g=.func (.func gf) #[] lb.toArray)(eg:Enters P gf)(hit:RS P gf lb Pa bs M w)(zl:Nat->World->Prop)(Ix:Code->Nat->World->Prop)(hI:∀k,j4 w.heap.size (zl k))(hIx:∀c k A b r r',w.heap.size<=b->A.heap[b]?=some (.loop r)->Ix c k A->Ix c k (A.putObj b (.loop r')))(h0:zl 0 w)(A:(Nat->Value)->Nat->(Nat->Value)->World->Prop)(hA:∀k e' W b r r',w.heap.size<=b->W.heap[b]?=some (.loop r)->A e k e' W->A e k e' (W.putObj b (.loop r')))(hassign:∀l k v W K,k<M->zl k W->Pa k v W->(∀e' W',aO W W'->A e k e' W'->K (act N e' []) W')->assign.wpIn (Fw (some l)) 7 P (Exit.then K (λ_ _ _=>False)) (act N (upd e p v) []) W)(hbody:∀l k e' W,k<M->A e k e' W->body.wpIn (Fw (some l)) 7 P (ZJ bs zl Ix (k+1) W) (act N e' []) W)(hdone:∀D W,w.heap.size<=D->zl M W->lv W D->Q .normal (act N e (⟨.collected D,#[]⟩::ds)) W)(hstop:∀D c k W,w.heap.size<=D->Ix c k W->lv W D->c.wpIn (Fw none) 9 P Q (act N e (⟨.collected D,#[]⟩::ds)) W):
 (Code.rangeFunc g #[p] assign body).wpIn (Fw none) 9 P Q (act N e ds) w:=by
 refine wpIn_rangeFunc (F:=Fence.wide) (n:=9) λfn A2=>?_
 obtain⟨R,hR⟩:∃R:LoopState->Option Code->Loop,R=λAm Aq=>{state:=Am,pending:=Aq,fn,tmps:=(act N e ds).tmps,params:=#[p],assign,body,defers:=w.heap.size}:=⟨_,rfl⟩
 obtain⟨V,hV⟩:∃V,(w.alloc (.deferred (some []))).alloc (.loop (R .ready none))=V:=⟨_,rfl⟩
 have hB:wm V w.heap.size (R .ready none):=by
  refine⟨?_,?_⟩ <;>rw[<-hV]
  · have h:=World.alloc_heap_new (w.alloc (.deferred (some []))) (.loop (R .ready none));rwa [World.size_alloc]at h
  · exact(Below.heap_alloc _ _ _ Rg).trans (World.alloc_heap_new w _)
 have Ab:w.heap.size+1<V.heap.size:=by rw[<-hV];simp
 have O:Below w.heap.size w V:=by rw[<-hV];exact((Below.refl _ w).alloc (qa0 _) _).alloc Rg _
 have hI0:zl 0 V:=(hI 0).ext O h0
 refine⟨w.heap.size+1,[⟨.collected w.heap.size,#[]⟩],V,⟨.fn (.func gf) lb.toArray,#[.func (.yield (w.heap.size+1)) #[] #[]]⟩,V,gf,#[.func (.yield (w.heap.size+1)) #[] #[]]++lb.toArray,V,?_,?_,?_,?_,λ_=>by omega,?_⟩
 · rw[<-hV,hR];exact run_enterLoop_outer _ _ _ _ _
 · have hg':(act N e ds).eval g=.func (.func gf) #[] lb.toArray:=by rw[cW];exact hg
   simp only[resolve,hg'];simp[go_sem]
 · intro As _;trivial
 · simp[invoke,go_sem];exact eg _ _
 refine(hit (w.heap.size+1) (λk W=>zl k W/\wm W w.heap.size (R .ready none)) (λk W=>∃c,Ix c k W/\wm W w.heap.size (R .done (some c))) V O
  (λk=>((hI k).mono U).and (wm.stab Ab)) ?_ ⟨hI0,hB⟩).mono ?_
 ·
  rintro k v W hkM ⟨hi,hk⟩ Ap
  have hy:=run_yield (P:=P) (args:=#[v]) hk.1 (by rw[hR];simp)
  rw[hR]at hy
  refine⟨fn,_,assign,body,hy,roundIn_of_wpIn A2 ?_⟩
  have hfold:(⟨(#[p].zip #[v]).foldl (λt (p,v)=>t.setIfInBounds p v) (act N e ds).tmps,[]⟩:Act)=act N (upd e p v) []:=by
   have h:=o9 N [p] [v] e
   have h2:act N (upd e p v) []=⟨(act N (ku e [p] [v]) []).tmps,[]⟩:=rfl
   rw[h2,<-h]
   simp only[List.zip_toArray,List.foldl_toArray]
   rfl
  rw[hfold]
  refine hassign (w.heap.size+1) k v W _ hkM hi Ap λe' W' hx A1=>?_
  have hk:wm W' w.heap.size (R .ready none):=⟨hx.heap hk.1,hx.heap hk.2⟩
  refine⟨_,run_beginRound hk.1 (by rw[hR]),?_⟩
  have A0:=hk.put {R .ready none with state:=.busy}
  refine wpIn_mono (hbody (w.heap.size+1) k e' _ hkM (hA k e' _ _ _ _ U hk.1 A1)) ?_
  have Ao:jh bs W W':=⟨hx.size,λ_ h=>h.ext hx⟩
  have H:∀(j:Option Code) (W3:World),KeepsOthers (W'.putObj (w.heap.size+1) (.loop {R .ready none with state:=.busy})) W3->
   wm W3 w.heap.size {R .ready none with state:=.busy}/\(Instr.endRound (w.heap.size+1) j).run P W3=.ok (.bool j.isNone) (W3.putObj (w.heap.size+1) (.loop (R (if j.isNone then .ready else .done) j))):=λj W3 h3=>by
   have h4:=A0.kept h3
   refine⟨h4,?_⟩
   have E:=run_endRound (P:=P) j h4.1
   rw[hR]at E ⊢
   exact E
  rintro x Ar W3 G
  cases x with
  | normal=>
    obtain⟨h1,Af,h3⟩:=G
    obtain⟨h4,E⟩:=H none W3 h1
    exact⟨_,_,E,.inl ⟨rfl,⟨(hI _).put (dt _ _ _) U h3,h4.put _⟩,Ao.trans (((jh.putObj hk.1).trans Af).trans (jh.putObj h4.1))⟩⟩
  | ret=>
    obtain⟨h1,h3⟩:=G
    obtain⟨h4,E⟩:=H (some .ret) W3 h1
    exact⟨_,_,E,.inr ⟨rfl,.ret,hIx _ _ _ _ _ _ U h4.1 h3,h4.put _⟩⟩
  | exit id=>
    obtain⟨h1,h3⟩:=G
    obtain⟨h4,E⟩:=H (some (.exit id)) W3 h1
    exact⟨_,_,E,.inr ⟨rfl,.exit id,hIx _ _ _ _ _ _ U h4.1 h3,h4.put _⟩⟩
  |goto t=>exact G.elim
  |panic c=>exact G.elim
  |outgrown=>exact G.elim
 · rintro x W2 ⟨⟨v,rfl⟩,⟨hi,hk⟩|⟨k,c,hi,hk⟩⟩
   · have h:=run_endLoop (P:=P) hk.1 (by rw[hR];simp)
     rw[hR]at h
     exact⟨none,_,h,hdone _ _ (qa0 _) ((hI M).put (dt _ _ _) U hi) (hk.put _).2⟩
   · have h:=run_endLoop (P:=P) hk.1 (by rw[hR];simp)
     rw[hR]at h
     exact⟨some c,_,h,hstop _ c k _ (qa0 _) (hIx c k _ _ _ _ U hk.1 hi) (hk.put _).2⟩
section
variable {r:Option Nat}{e:Nat->Value}{Q:Exit->Act->World->Prop}{K:Act->World->Prop}
variable {d ty:Nat}{pos:String}{af:Array Edge}{g:Option (Nat×Bool)}{v u:Value}{x y:Operand}{t el:TypeId}
def Va {z:Value}{k0:Nat}(hu:P.underlying t=some (.slice el))(hi:gu P el z 1 bytes)(hz:z.cells.size=1)(hx:ev N e x=v)(hown:w.ownsRow base el 1 v k0 xs)(hy:ev N e y=.slice (some ⟨b,0,none⟩) 1 1)(hr:Rw w lo (some ⟨b,0,none⟩) [u])(h1:u.oneCell'=true)(hk0:k0<=1000)(hby:bytes<=1000)(hbase:base<=w.heap.size)(hk:∀v' w',m7 w w' base el v v' k0 xs u->K (act N (upd e d v') ds) w'):
 Oper.wpIn (Fw r) n P ⟨some d,.call {callee:=.builtin .append,args:=#[x,y],argTypes:=#[t,t]},ty,pos,af,g⟩ (act N e ds) w K Q:=by
 obtain⟨v',w',E,hA⟩:=Mc (P:=P) (t:=t) (ty:=ty) hu hi hz hown hr h1 hk0 hby hbase
 refine cQ (v:=v') (w':=w') Z ?_ (by rw[ax];exact hk v' w' hA)
 simp[execOp,resolve,invoke,builtin,hx,hy,E]
end
def FW (w0:World)(base:Nat)(el:TypeId)(v:Value)(k:Nat)(xs:List Value)(x:Value)(s ts a ta:Nat)(ls:Nat->Bool)(e:Nat->Value)(w:World):Prop:=
 (ls a=false->aO w0 w/\(ls s=true->∃b,e ts=.slice (some ⟨b,0,none⟩) 1 1/\Rw w 0 (some ⟨b,0,none⟩) [x]))/\
 (ls a=true->∃w1 w2,aO w0 w1/\m7 w1 w2 base el v (e ta) k xs x/\aO w2 w)
section
variable {L:List (Option (Nat×Value))}{ls:Nat->Bool}{e:Nat->Value}{w0 w':World}{s ts a ta d:Nat}{el:TypeId}{v v' x u:Value}
def FW.start:FW w0 base el v k xs x s ts a ta (λ_=>false) e w0.drew:=⟨λ_=>⟨ac3 w0,λh=>by cases h⟩,λh=>by cases h⟩
def X7 (hl:ml L i=some (some (d,u)))(hX:FW w0 base el v k xs x s ts a ta ls e w)(h1:Nat.beq a i=false:=by rfl)(h2:Nat.beq s i=false:=by rfl)(h3:Nat.beq ts d=false:=by rfl)(h4:Nat.beq ta d=false:=by rfl):
 sr N ds (FW w0 base el v k xs x s ts a ta) L ls e i (some d) .normal (act N (upd e d u) ds) w:=by
 refine⟨rfl,u,(ax ..).symm,(λ_ _ h=>by rw[hl]at h;cases h;rfl),λh=>?_,λh=>?_⟩
 · rw[e7 h1]at h
   refine⟨(hX.1 h).1,λhs=>?_⟩
   rw[e7 h2]at hs
   obtain⟨b,e1,e2⟩:=(hX.1 h).2 hs
   exact⟨b,by show upd e d u ts=_;rw[jZ h3];exact e1,e2⟩
 · rw[e7 h1]at h
   obtain⟨w1,E,p,q,r⟩:=hX.2 h
   exact⟨w1,E,p,by show m7 w1 E base el v (upd e d u ta) k xs x;rw[jZ h4];exact q,r⟩
def ZK (hl:ml L s=some none)(hX:FW w0 base el v k xs x s ts a ta ls e w)(kx:aO w w')(hr:Rw w' 0 (some ⟨b,0,none⟩) [x])(h1:Nat.beq a s=false:=by rfl)(h4:Nat.beq ta ts=false:=by rfl):
 sr N ds (FW w0 base el v k xs x s ts a ta) L ls e s (some ts) .normal (act N (upd e ts (.slice (some ⟨b,0,none⟩) 1 1)) ds) w':=by
 refine⟨rfl,_,(ax ..).symm,(λ_ _ h=>by rw[hl]at h;cases h),λh=>?_,λh=>?_⟩
 · rw[e7 h1]at h
   exact⟨(hX.1 h).1.trans kx,λ_=>⟨b,by show upd e ts _ ts=_;rw[kr],hr⟩⟩
 · rw[e7 h1]at h
   obtain⟨w1,E,p,q,r⟩:=hX.2 h
   exact⟨w1,E,p,by show m7 w1 E base el v (upd e ts _ ta) k xs x;rw[jZ h4];exact q,r.trans kx⟩
def ZL (hl:ml L a=some none)(hX:FW w0 base el v k xs x s ts a ta ls e w)(hn:ls a=false)(hA:m7 w w' base el v v' k xs x):
 sr N ds (FW w0 base el v k xs x s ts a ta) L ls e a (some ta) .normal (act N (upd e ta v') ds) w':=by
 refine⟨rfl,_,(ax ..).symm,(λ_ _ h=>by rw[hl]at h;cases h),λh=>?_,λ_=>?_⟩
 · rw[FU]at h;cases h
 · exact⟨w,w',(hX.1 hn).1,by show m7 w w' base el v (upd e ta v' ta) k xs x;rw[kr];exact hA,aa3 _⟩
end
def jh.refl' (W:World):jh bs W W:=⟨qa0 _,λ_ h=>h⟩
def jh.ofExt (k:aO W W'):jh bs W W':=jh.ofE k
def H9 (n:Nat):Nat->Nat->List Nat->List (List Nat)
 |0,_,_=>[]
 |f+1,i,l=>(if l.length+1=n then[l++[i]]else H9 n f (i+1) (l++[i]))++H9 n f (i+1) l
def zn (n m i:Nat)(l:List Nat):List (List Nat):=if l.length=n then[l]else H9 n (m-i) i l
def Md {m:Nat}{l:List Nat}(h:i<m):H9 n (m-i) i l=zn n m (i+1) (l++[i])++H9 n (m-(i+1)) (i+1) l:=by
 rw[show m-i=(m-(i+1))+1 by omega]
 unfold zn
 rw[List.length_append,List.length_singleton]
 rfl
def P6 {m:Nat}{l:List Nat}(h:¬i<m):H9 n (m-i) i l=[]:=by rw[show m-i=0 by omega];rfl
def Me (P:Program)(gf:Nat)(lb:List Value)(box:World->Prop)(base:Nat)(el:TypeId)(JT Jx:Nat->World->Prop)(S:Nat->List Nat)(M n m first:Nat):Prop:=
 ∀ (A:Option Addr) (l:List Nat) (cp k:Nat) (W:World),l.length<=first->box W->W.ownsRow base el 1 (.slice A l.length cp) l.length (ints l)->base<=W.heap.size->JT k W->k+(zn n m first l).length<=M->(∀j,j<(zn n m first l).length->S (k+j)=(zn n m first l).getD j [])->
  Calls P gf (([Value.slice A l.length cp,Value.int .i64 ((first:Nat):Int)]:List Value)++lb).toArray W (kv λv W'=>(v=.bool true/\JT (k+(zn n m first l).length) W'/\W'.ownsRow base el 1 (.slice A l.length cp) l.length (ints l)/\jh (bl (.slice A l.length cp)) W W')\/(v=.bool false/\∃k,Jx k W'))
end
end Go.Proofs.YtlmihmlnpjkblaaGreatDoor
