/- Part of the proof of a statement about an adjustment. -/
import Derived.Test.YtlmihmlnpjkblaaGreatDoorRat4ToMapLL
set_option linter.all false
namespace Go.Proofs.YtlmihmlnpjkblaaGreatDoor
variable {la lb c d e f cn cd l6 l7 u6 u7 c2 d2 e2 f2 j:Int}{ds:List Deferred}{rl bs ps:List Nat}{xs:List Value}{n cp k D pl b1 b2 b C ny CY nb CB b3 x CR lo5 gf N M g bytes base lo cap p i:Nat}{A B Y kd:Option Addr}{P:Program}{w W W':World}
section
set_option maxRecDepth 100000
open Go Go.Eng Go.RowKit Tryz
attribute [local irreducible] wpListIn Code.wpIn Oper.wpIn Exit.then Exit.inBlock Exit.noGoto
set_option maxHeartbeats 40000000
def gk :aO w w:=aa4 _
def LR {l m:List UInt8}{fr:Int}:
 CL 46 #[.agg #[.slice A n cp,.slice B k D,S l,S m,.int .i64 fr],.int .i64 0] w (aG w λv w'=>v=.agg #[.slice A n cp,.slice B k D,S l,S m,.int .i64 fr]):=by
 refine aC func46 Z (I ?_);refine bx (λO Af G=>?_);have E:=Af.2;refine al dN (λ_ Ab H=>?_);have⟨G,E⟩:=bn Ab.2 G E;refine I ?_;refine cl fE dh ?_;rintro _ _ A1 rfl;have⟨G,H,E⟩:=cj A1.2 G H E;refine I ?_;(try refine aa (aP (cs:=[.slice A n cp,.slice B k D,S l,S m,.int .i64 fr]) (b:=w.heap.size) (o:=0) nu Z dG Z (aa0 G (i:=0) Z) ?_));refine aa (bF (b:=O.heap.size) (o:=0) (vs:=[.slice A n cp,.slice B k D,S l,S m,.int .i64 fr]) dG Z Z KK H (qa3 Z) (λ_ A0 A2=>?_));have G:=pb A0 G;have E:=bi A0 E;refine I ?_;refine aX (v:=.agg #[.slice A n cp,.slice B k D,S l,S m,.int .i64 fr]) (bY  rfl ?_) E Z;refine ak (t:=4) (cs:=[.slice A n cp,.slice B k D,S l,S m,.int .i64 fr]) (b:=O.heap.size) (o:=0) nu Z dG ?_ ?_;exact Z;exact aa0 A2 (i:=0) Z
def u5 {l m:List UInt8}{fr:Int}{a b:Int}(hb1:ap w b1 40 #[.slice A n cp,.slice B k D,S l,S m,.int .i64 fr])(hb2:ap w b2 86 #[S ((qR la lb).1),S ((qR la lb).2),.int .i64 pl])(hCh:(∀W,aO w W->CL 105 #[QV a b,.int .i64 fr,.int .i64 pl] W (aG W λv _=>v=.tuple #[IV c d e f,.int .i64 0]))):
 CL 103 #[QV a b,pT b1,pT b2] w (aG w λv w'=>v=IV c d e f):=by
 have Ao:=bt hb1;have Ap:=bt hb2;refine aC func103 Z (I ?_);refine bx (λA2 A0 G=>?_);have⟨hb1,hb2⟩:=dZ A0.2 hb1 hb2;have E:=A0.2;refine al dQ (λ_ Af H=>?_);have⟨hb1,hb2,G,E⟩:=fo Af.2 hb1 hb2 G E;refine I ?_;refine cl Sa (hCh _ E) ?_;rintro _ _ A1 rfl;have⟨hb1,hb2,G,H,E⟩:=ku A1.2 hb1 hb2 G H E;refine I ?_;refine cl SX KU ?_;rintro _ _ Am rfl;have⟨hb1,hb2,G,H,E⟩:=ku Am.2 hb1 hb2 G H E;refine SA H (λ_ O Ab=>?_);have⟨hb1,hb2,G⟩:=p0 O hb1 hb2 G;have E:=bi O E;refine I ?_;refine aX (v:=IV c d e f) (bY  rfl ?_) E Z;refine ak (t:=4) (cs:=[S (qR c d).1,S (qR c d).2,S (qR e f).1,S (qR e f).2]) (b:=A2.heap.size) (o:=0) fA Z dY ?_ ?_;exact Z;exact aa0 Ab (i:=0) Z
def Hi {fr:Int}{c d e f:Int}(hfr:¬fr=0)(hDn:∀W,Tb W->CL 100 #[QV cn cd,.int .i64 6] W (aG W λv _=>v=.tuple #[QV l6 l7,.int .i64 0]))(hUp:∀W,Tb W->CL 101 #[QV cn cd,.int .i64 6] W (aG W λv _=>v=.tuple #[QV u6 u7,.int .i64 0]))(ql:Q9 la lb)(qhi:Q9 u6 u7)(hfh:¬0<aN (u6*1) (100*u7))(qc2:Q9 c2 d2)(hCh:(∀W,aO w W->CL 105 #[QV u6 u7,.int .i64 fr,.int .i64 pl] W (aG W λv _=>v=.tuple #[IV c2 d2 e2 f2,.int .i64 0])))(hA:0<=aN (c2*lb) (la*d2))(ht:Tb w):
 CL 45 #[.agg #[S (qR la lb).1,S (qR la lb).2,.int .i64 pl],.agg #[.slice A n cp,.slice B k D,S (qR cn cd).1,S (qR cn cd).2,.int .i64 fr]] w (aG w λv w'=>v=.int .i64 1):=by
 refine aC func45 Z (I ?_);refine bx (λAm X2 Aw=>?_);have O:=X2.2;refine bx (λA2 a5 Cr=>?_);have⟨Aw,O⟩:=bn a5.2 Aw O;refine I ?_;refine UU tm 14 [5,6,12,13,14,15,16,17,18,19,20,21,22,23] [some (12,.pointer (some ⟨Am.heap.size,2,none⟩)),some (13,QV cn cd),some (14,.tuple #[QV l6 l7,.int .i64 0]),some (15,QV l6 l7),some (16,.int .i64 0),some (17,QV l6 l7),some (18,.pointer (some ⟨Am.heap.size,2,none⟩)),some (19,QV cn cd),some (20,.tuple #[QV u6 u7,.int .i64 0]),some (21,QV u6 u7),some (22,.int .i64 0),some (23,QV u6 u7),none,none] (XK (Eng.XH (λW=>aO A2 W) A2.heap.size 12 5 33 #[S [],S []]) A2.heap.size 12 5 13 6 33 #[S [],S []]) (XK.start (XH.start (ac3 A2))) q0 q0 q0 ?_ ?_;refine⟨λa0 _ _ VW _ Ar _ _ _=>?_,?_⟩;obtain⟨a0,rfl⟩:=dX VW;refine I ?_;exact sT (js Z Ar.1 Ar.1.1 gk) Ar (λb _ h=>h);refine⟨λK3 _ _ L1 L2 Ap _ _ _=>?_,?_⟩;obtain⟨K3,rfl⟩:=dX L1;have cf:=gm (L2 0 _ _ Z Z);have cT:=(be Ap.1.1 Cr);refine I ?_;exact sT (js Z Ap.1 Ap.1.1 gk) Ap (λb _ h=>h);refine⟨λW1 _ _ Lk KC Ao _ _ _=>?_,?_⟩;obtain⟨W1,rfl⟩:=dX Lk;have Ix:=gm (KC 1 _ _ Z Z);have Vm:=xt O Ao.1.1;refine cl BM (hDn _ (ht.ext Vm)) ?_ (av Ix (av Z Z));rintro _ _ E4 rfl;refine I ?_
 exact sT (js Z Ao.1 (Ao.1.1.trans E4.2) E4.2) Ao (λb _ h=>be E4.2 h);refine⟨λKY _ _ W3 X0 Av _ _ _=>?_,?_⟩;obtain⟨KY,rfl⟩:=dX W3;have cr:=gm (X0 2 _ _ Z Z);refine I ?_;exact sT (js Z Av.1 Av.1.1 gk) Av (λb _ h=>h);refine⟨λLj _ _ Q0 bb CG _ _ _=>?_,?_⟩;obtain⟨Lj,rfl⟩:=dX Q0;have ct:=gm (bb 2 _ _ Z Z);refine I ?_;exact sT (js Z CG.1 CG.1.1 gk) CG (λb _ h=>h);refine⟨λT3 _ _ ad ES E6 _ _ _=>?_,?_⟩;obtain⟨T3,rfl⟩:=dX ad;have a4:=gm (ES 3 _ _ Z Z);have K2:=gm (ES 4 _ _ Z Z);refine cl qm kS ?_ (av a4 (av K2 Z));rintro _ _ E1 rfl;refine I ?_;exact sT (js Z E6.1 (E6.1.1.trans E1.2) E1.2) E6 (λb _ h=>be E1.2 h);refine⟨λLa _ _ T2 _ Ax _ _ _=>?_,?_⟩;obtain⟨La,rfl⟩:=dX T2;refine I ?_;exact sT (js Z Ax.1 Ax.1.1 gk) Ax (λb _ h=>h);refine⟨λP2 _ _ an W2 A1 _ _ _=>?_,?_⟩;obtain⟨P2,rfl⟩:=dX an;have cb:=gm (W2 6 _ _ Z Z);have ce:=(be A1.1.1 Cr);refine I ?_;exact sT (js Z A1.1 A1.1.1 gk) A1 (λb _ h=>h);refine⟨λS0 _ _ N0 L3 Aq _ _ _=>?_,?_⟩;obtain⟨S0,rfl⟩:=dX N0;have a6:=gm (L3 7 _ _ Z Z);have a9:=xt O Aq.1.1;refine cl BN (hUp _ (ht.ext a9)) ?_ (av a6 (av Z Z));rintro _ _ Az rfl;refine I ?_
 exact sT (js Z Aq.1 (Aq.1.1.trans Az.2) Az.2) Aq (λb _ h=>be Az.2 h);refine⟨λa3 _ _ bd S9 As _ _ _=>?_,?_⟩;obtain⟨a3,rfl⟩:=dX bd;have ch:=gm (S9 8 _ _ Z Z);refine I ?_;exact sT (js Z As.1 As.1.1 gk) As (λb _ h=>h);refine⟨λa8 _ _ P0 P1 C1 _ _ _=>?_,?_⟩;obtain⟨a8,rfl⟩:=dX P0;have c9:=gm (P1 8 _ _ Z Z);refine I ?_;exact sT (js Z C1.1 C1.1.1 gk) C1 (λb _ h=>h);refine⟨λbq _ _ b0 H4 nm _ _ _=>?_,?_⟩;obtain⟨bq,rfl⟩:=dX b0;have KM:=gm (H4 9 _ _ Z Z);have Kp:=gm (H4 10 _ _ Z Z);refine cl qm kS ?_ (av KM (av Kp Z));rintro _ _ B1 rfl;refine I ?_;exact sT (js Z nm.1 (nm.1.1.trans B1.2) B1.2) nm (λb _ h=>be B1.2 h);refine⟨λa2 _ _ Rm _ Ab _ _ _=>?_,?_⟩;obtain⟨a2,rfl⟩:=dX Rm;have cm:=xt O Ab.1.1;refine al aS (λ_ E5 L4=>I ?_);exact XR Z (XH.new Ab.1 (Ab.1.1.trans E5.2) E5.2 L4) Ab (λb _ h=>be E5.2 h);refine⟨λbv _ _ Ne _ od _ _ _=>?_,?_⟩;obtain⟨bv,rfl⟩:=dX Ne;have cw:=xt O od.1.1;refine al aS (λ_ GC WV=>I ?_);exact XS Z (XH.keep od.1 (od.1.1.trans GC.2) GC.2) od.1.2.1 WV (XH.ne od.1);exact trivial;intro E0 _ _ E7 bW H2 A0;obtain⟨E0,rfl⟩:=dX bW;have G:=(be A0.1.1 Aw);have H:=(be A0.1.1 Cr);have E:=xt O A0.1.1
 obtain⟨ac,Af,_,Li⟩:=A0.1.2.2 (E7 12 Z);obtain⟨Wa,Ay,_,B2,E9⟩:=A0.2 (E7 13 Z);have E9:=LP Af (E9 (E7 12 Z));have Ay:=gm Ay;have Af:=gm Af;have cc:E0 5=pT ac:=(Af);have co:=gm (H2 5 _ _ Z Z);refine SA Li (λ_ H3 FR=>?_);have⟨G,H,B2⟩:=p0 H3 G H B2;have E:=bi H3 E;have cq:E0 6=pT Wa:=(Ay);have cv:=gm (H2 11 _ _ Z Z);refine SA B2 (λ_ EW _=>?_);have⟨G,H,FR⟩:=p0 EW G H FR;have E:=bi EW E;refine I ?_;refine aa (aD (vf:=[]) (vc:=[pT Am.heap.size,pT w.heap.size]) Z (av Z (av Z Z)) ?_);refine I ?_;refine bL 11 ?_;refine sf ?_;refine aR (V:=.bool false) (λ_ _ No _=>?_) ?_;refine aa (lW (vs:=[QV u6 u7]) (lb:=[]) BX Z Z (nc (Y:=.bool false) (yG qhi (ht.ext (xt E No))) (qb2 Value.bool (qa2 hfh))) ?_);rintro _ _ bp rfl;refine I ?_;exact fs ⟨bp.2,rfl⟩;refine sf ?_;refine aR (V:=IV c2 d2 e2 f2) (λ_ _ G0 _=>?_) ?_;have⟨G,H⟩:=dZ G0 G H;refine I ?_;refine aa (lW (vs:=[QV u6 u7]) (lb:=[pT Am.heap.size,pT w.heap.size]) BY Z Z (u5 H G (λW q=>hCh W (xt (xt E G0) q))) ?_);rintro _ _ ny rfl;refine I ?_;exact fs ⟨ny.2,rfl⟩;refine aA (λ_ _ _ _=>by refine I ?_;refine aa (wY Z ?_);refine I ?_;exact aH) ?_;refine sf ?_;intro _ _ bZ _;have E:=xt E bZ.2
 (with_reducible refine iu Z ?_);refine I ?_;refine cl nL (wW qc2 ql (ht.ext E)) ?_;rintro _ _ wr rfl;have E:=xt E wr.2;refine I ?_;exact am (t:=4) (v:=.int .i64 1) Z E Z Z
def Hj {fr:Int}(hfr:¬fr=0)(hDn:∀W,Tb W->CL 100 #[QV cn cd,.int .i64 6] W (aG W λv _=>v=.tuple #[QV l6 l7,.int .i64 0]))(hUp:∀W,Tb W->CL 101 #[QV cn cd,.int .i64 6] W (aG W λv _=>v=.tuple #[QV u6 u7,.int .i64 0]))(ql:Q9 la lb)(qhi:Q9 u6 u7)(hfh:¬0<aN (u6*1) (100*u7))(qc2:Q9 c2 d2)(hCh:(∀W,aO w W->CL 105 #[QV u6 u7,.int .i64 fr,.int .i64 pl] W (aG W λv _=>v=.tuple #[IV c2 d2 e2 f2,.int .i64 0])))(hA:¬0<=aN (c2*lb) (la*d2))(qlo:Q9 l6 l7)(hfl:¬0<aN (l6*1) (100*l7))(qe:Q9 e f)(hCl:(∀W,aO w W->CL 105 #[QV l6 l7,.int .i64 fr,.int .i64 pl] W (aG W λv _=>v=.tuple #[IV c d e f,.int .i64 0])))(hR:aN (e*lb) (la*f)<0)(ht:Tb w):
 CL 45 #[.agg #[S (qR la lb).1,S (qR la lb).2,.int .i64 pl],.agg #[.slice A n cp,.slice B k D,S (qR cn cd).1,S (qR cn cd).2,.int .i64 fr]] w (aG w λv w'=>v=.int .i64 2):=by
 refine aC func45 Z (I ?_);refine bx (λA2 a9 Ax=>?_);have O:=a9.2;refine bx (λAo bd CG=>?_);have⟨Ax,O⟩:=bn bd.2 Ax O;refine I ?_;refine UU tm 14 [5,6,12,13,14,15,16,17,18,19,20,21,22,23] [some (12,.pointer (some ⟨A2.heap.size,2,none⟩)),some (13,QV cn cd),some (14,.tuple #[QV l6 l7,.int .i64 0]),some (15,QV l6 l7),some (16,.int .i64 0),some (17,QV l6 l7),some (18,.pointer (some ⟨A2.heap.size,2,none⟩)),some (19,QV cn cd),some (20,.tuple #[QV u6 u7,.int .i64 0]),some (21,QV u6 u7),some (22,.int .i64 0),some (23,QV u6 u7),none,none] (XK (Eng.XH (λW=>aO Ao W) Ao.heap.size 12 5 33 #[S [],S []]) Ao.heap.size 12 5 13 6 33 #[S [],S []]) (XK.start (XH.start (ac3 Ao))) q0 q0 q0 ?_ ?_;refine⟨λa6 _ _ K2 _ Az _ _ _=>?_,?_⟩;obtain⟨a6,rfl⟩:=dX K2;refine I ?_;exact sT (js Z Az.1 Az.1.1 gk) Az (λb _ h=>h);refine⟨λRm _ _ W2 P0 Af _ _ _=>?_,?_⟩;obtain⟨Rm,rfl⟩:=dX W2;have cw:=gm (P0 0 _ _ Z Z);have ch:=(be Af.1.1 CG);refine I ?_;exact sT (js Z Af.1 Af.1.1 gk) Af (λb _ h=>h);refine⟨λNo _ _ P1 P2 Aq _ _ _=>?_,?_⟩;obtain⟨No,rfl⟩:=dX P1;have La:=gm (P2 1 _ _ Z Z);have L1:=xt O Aq.1.1;refine cl BM (hDn _ (ht.ext L1)) ?_ (av La (av Z Z));rintro _ _ E6 rfl;refine I ?_
 exact sT (js Z Aq.1 (Aq.1.1.trans E6.2) E6.2) Aq (λb _ h=>be E6.2 h);refine⟨λbZ _ _ X2 a5 C1 _ _ _=>?_,?_⟩;obtain⟨bZ,rfl⟩:=dX X2;have ct:=gm (a5 2 _ _ Z Z);refine I ?_;exact sT (js Z C1.1 C1.1.1 gk) C1 (λb _ h=>h);refine⟨λQ0 _ _ Lj bb Av _ _ _=>?_,?_⟩;obtain⟨Q0,rfl⟩:=dX Lj;have cq:=gm (bb 2 _ _ Z Z);refine I ?_;exact sT (js Z Av.1 Av.1.1 gk) Av (λb _ h=>h);refine⟨λa3 _ _ a4 H3 ES _ _ _=>?_,?_⟩;obtain⟨a3,rfl⟩:=dX a4;have K3:=gm (H3 3 _ _ Z Z);have KM:=gm (H3 4 _ _ Z Z);refine cl qm kS ?_ (av K3 (av KM Z));rintro _ _ E1 rfl;refine I ?_;exact sT (js Z ES.1 (ES.1.1.trans E1.2) E1.2) ES (λb _ h=>be E1.2 h);refine⟨λVW _ _ L3 _ Cr _ _ _=>?_,?_⟩;obtain⟨VW,rfl⟩:=dX L3;refine I ?_;exact sT (js Z Cr.1 Cr.1.1 gk) Cr (λb _ h=>h);refine⟨λLi _ _ c9 WV As _ _ _=>?_,?_⟩;obtain⟨Li,rfl⟩:=dX c9;have cm:=gm (WV 6 _ _ Z Z);have cy:=(be As.1.1 CG);refine I ?_;exact sT (js Z As.1 As.1.1 gk) As (λb _ h=>h);refine⟨λcb _ _ Ne W1 Ar _ _ _=>?_,?_⟩;obtain⟨cb,rfl⟩:=dX Ne;have Wa:=gm (W1 7 _ _ Z Z);have a2:=xt O Ar.1.1;refine cl BN (hUp _ (ht.ext a2)) ?_ (av Wa (av Z Z));rintro _ _ Ay rfl;refine I ?_
 exact sT (js Z Ar.1 (Ar.1.1.trans Ay.2) Ay.2) Ar (λb _ h=>be Ay.2 h);refine⟨λb0 _ _ ce S0 Aw _ _ _=>?_,?_⟩;obtain⟨b0,rfl⟩:=dX ce;have co:=gm (S0 8 _ _ Z Z);refine I ?_;exact sT (js Z Aw.1 Aw.1.1 gk) Aw (λb _ h=>h);refine⟨λL2 _ _ bp cc E5 _ _ _=>?_,?_⟩;obtain⟨L2,rfl⟩:=dX bp;have cv:=gm (cc 8 _ _ Z Z);refine I ?_;exact sT (js Z E5.1 E5.1.1 gk) E5 (λb _ h=>h);refine⟨λVm _ _ KC EW nm _ _ _=>?_,?_⟩;obtain⟨Vm,rfl⟩:=dX KC;have ad:=gm (EW 9 _ _ Z Z);have N0:=gm (EW 10 _ _ Z Z);refine cl qm kS ?_ (av ad (av N0 Z));rintro _ _ B1 rfl;refine I ?_;exact sT (js Z nm.1 (nm.1.1.trans B1.2) B1.2) nm (λb _ h=>be B1.2 h);refine⟨λT2 _ _ T3 _ Am _ _ _=>?_,?_⟩;obtain⟨T2,rfl⟩:=dX T3;have cz:=xt O Am.1.1;refine al aS (λ_ E7 L4=>I ?_);exact XR Z (XH.new Am.1 (Am.1.1.trans E7.2) E7.2 L4) Am (λb _ h=>be E7.2 h);refine⟨λS9 _ _ at4 _ A1 _ _ _=>?_,?_⟩;obtain⟨S9,rfl⟩:=dX at4;have d1:=xt O A1.1.1;refine al aS (λ_ H4 KY=>I ?_);exact XS Z (XH.keep A1.1 (A1.1.1.trans H4.2) H4.2) A1.1.2.1 KY (XH.ne A1.1);exact trivial;intro E0 _ _ B2 ac G0 Ab;obtain⟨E0,rfl⟩:=dX ac;have G:=(be Ab.1.1 Ax);have H:=(be Ab.1.1 CG);have E:=xt O Ab.1.1
 obtain⟨a8,Ap,_,bv⟩:=Ab.1.2.2 (B2 12 Z);obtain⟨X0,E9,_,E4,Ix⟩:=Ab.2 (B2 13 Z);have Ix:=LP Ap (Ix (B2 12 Z));have E9:=gm E9;have Ap:=gm Ap;have cx:E0 5=pT a8:=(Ap);have cf:=gm (G0 5 _ _ Z Z);refine SA bv (λ_ GC A0=>?_);have⟨G,H,E4⟩:=p0 GC G H E4;have E:=bi GC E;have d0:E0 6=pT X0:=(E9);have cr:=gm (G0 11 _ _ Z Z);refine SA E4 (λ_ FR _=>?_);have⟨G,H,A0⟩:=p0 FR G H A0;have E:=bi FR E;refine I ?_;refine aa (aD (vf:=[]) (vc:=[pT A2.heap.size,pT w.heap.size]) Z (av Z (av Z Z)) ?_);refine I ?_;refine bL 11 ?_;refine sf ?_;refine aR (V:=.bool false) (λ_ _ bq _=>?_) ?_;refine aa (lW (vs:=[QV u6 u7]) (lb:=[]) BX Z Z (nc (Y:=.bool false) (yG qhi (ht.ext (xt E bq))) (qb2 Value.bool (qa2 hfh))) ?_);rintro _ _ cT rfl;refine I ?_;exact fs ⟨cT.2,rfl⟩;refine sf ?_;refine aR (V:=IV c2 d2 e2 f2) (λ_ _ wr _=>?_) ?_;have⟨G,H⟩:=dZ wr G H;refine I ?_;refine aa (lW (vs:=[QV u6 u7]) (lb:=[pT A2.heap.size,pT w.heap.size]) BY Z Z (u5 H G (λW q=>hCh W (xt (xt E wr) q))) ?_);rintro _ _ ny rfl;refine I ?_;exact fs ⟨ny.2,rfl⟩;refine aA (λ_ _ _ _=>by refine I ?_;refine aa (wY Z ?_);refine I ?_;exact aH) ?_;refine sf ?_;intro _ _ Lk _;have⟨G,H,A0,E⟩:=fo Lk.2 G H A0 E
 (with_reducible refine iu Z ?_);refine I ?_;refine cl nL (wW qc2 ql (ht.ext E)) ?_;rintro _ _ bW rfl;have⟨G,H,A0,E⟩:=fo bW.2 G H A0 E;refine I ?_;refine bL 10 ?_;refine sf ?_;refine aR (V:=.bool false) (λ_ _ Kp _=>?_) ?_;refine aa (lW (vs:=[QV l6 l7]) (lb:=[]) BX Z Z (nc (Y:=.bool false) (yG qlo (ht.ext (xt E Kp))) (qb2 Value.bool (qa2 hfl))) ?_);rintro _ _ od rfl;refine I ?_;exact fs ⟨od.2,rfl⟩;refine sf ?_;refine aR (V:=IV c d e f) (λ_ _ H2 _=>?_) ?_;have⟨G,H⟩:=dZ H2 G H;refine I ?_;refine aa (lW (vs:=[QV l6 l7]) (lb:=[pT A2.heap.size,pT w.heap.size]) BY Z Z (u5 H G (λW q=>hCl W (xt (xt E H2) q))) ?_);rintro _ _ a0 rfl;refine I ?_;exact fs ⟨a0.2,rfl⟩;refine aA (λ_ _ _ _=>by refine I ?_;refine aa (Hh Z ?_);refine I ?_;exact aH) ?_;refine sf ?_;intro _ _ an _;have E:=xt E an.2;(with_reducible refine iu Z ?_);refine I ?_;refine cl nL (wW qe ql (ht.ext E)) ?_;rintro _ _ W3 rfl;have E:=xt E W3.2;refine I ?_;exact am (t:=4) (v:=.int .i64 2) Z E Z Z
def Hk {xs:List R}{C0:Rows}{fr:Int}(ql:Q9 la lb)(h12:pl<=12)(hl1:0<=aN (la*1000000) (1*lb))(hl2:aN (la*2) (1*lb)<=0)(hb1:ap w b1 33 #[S ((qR la lb).1),S ((qR la lb).2)])(hb2:ap w b2 3 #[.int .i64 pl])(hb3:ap w b3 30 #[.slice A n C,.slice Y ny CY,.slice B nb CB])(hFit:∀W,aO w W->CL 14 #[.agg #[.slice A n C,.slice Y ny CY,.slice B nb CB]] W (aG W λv w'=>∃u,v=.tuple #[u,.int .i64 0]/\ow W.heap.size w' u k xs C0 (qR cn cd) fr))(hJ:∀W A1 cp B1 D,aO w W->CL 45 #[.agg #[S ((qR la lb).1),S ((qR la lb).2),.int .i64 pl],.agg #[.slice A1 xs.length cp,.slice B1 k D,S ((qR cn cd).1),S ((qR cn cd).2),.int .i64 fr]] W (aG W λv _=>v=.int .i64 j))(ht:Tb w):
 CL 43 #[pT b1,pT b2,pT b3] w (aG w λv w'=>v=.int .i64 j):=by
 have KC:=bt hb1;have FR:=bt hb2;have H3:=bt hb3;refine aC func43 Z (I ?_);refine aa (bU (vs:=[(0,QV la lb),(1,.int .i64 pl)]) (cells:=#[S (qR la lb).1,S (qR la lb).2,.int .i64 pl]) (pl:=[(0,2),(2,1)]) DK sd q0 Z q0 ?_);refine al sd (λ_ O nm=>?_);have⟨hb1,hb2,hb3⟩:=wl O.2 hb1 hb2 hb3;have E:=O.2;refine aa (bF (b:=w.heap.size) (o:=0) (vs:=[S (qR la lb).1,S (qR la lb).2,.int .i64 pl]) xl Z Z KK nm (qa3 Z) (λ_ H G=>?_));have⟨hb1,hb2,hb3⟩:=p0 H hb1 hb2 hb3;have E:=bi H E;refine I ?_;(try refine aa (aP (cs:=[S (qR la lb).1,S (qR la lb).2,.int .i64 pl]) (b:=w.heap.size) (o:=0) DK Z xl Z (aa0 G (i:=0) Z) ?_));refine cl IC (wX ql h12 hl1 hl2 (ht.ext E)) ?_;rintro _ _ Ap rfl;have⟨hb3,G,E⟩:=cj Ap.2 hb3 G E;refine I ?_;refine bL 6 ?_;refine aA (λ_ _ Av _=>by have G:=be Av G;(try refine aa (aP (cs:=[S (qR la lb).1,S (qR la lb).2,.int .i64 pl]) (b:=w.heap.size) (o:=0) DK Z xl Z (aa0 G (i:=0) Z) ?_));refine I ?_;exact aH) ?_
 refine aA (λ_ _ CG _=>by have hb3:=be CG hb3;(try refine aa (aP (cs:=[.slice A n C,.slice Y ny CY,.slice B nb CB]) (b:=b3) (o:=0) da Z bj Z (aa0 hb3 (i:=0) Z) ?_));refine I ?_;exact aH) ?_;refine bR (fun(v:Value) (_:World)=>∃A1 cp B1 D,v=(.tuple #[.agg #[.slice A1 xs.length cp,.slice B1 k D,S (qR cn cd).1,S (qR cn cd).2,.int .i64 fr],.int .i64 0]:Value)) (λ_ _ E4 _=>?_) ?_;refine cl tl (hFit _ (xt E E4)) ?_;rintro _ _ Am ⟨GC,rfl,K2,ES,KM,H2,EW,rfl,G0,H4,K3,Ix⟩;refine I ?_;exact fs ⟨Am.2,⟨_,_,_,_,rfl⟩⟩;refine bR (fun(v:Value) (_:World)=>∃A1 cp B1 D,v=(.agg #[.slice A1 xs.length cp,.slice B1 k D,S (qR cn cd).1,S (qR cn cd).2,.int .i64 fr]:Value)) (λC1 _ _ A0=>?_) ?_;have A2:∃A1 cp B1 D,C1 12=(.tuple #[.agg #[.slice A1 xs.length cp,.slice B1 k D,S (qR cn cd).1,S (qR cn cd).2,.int .i64 fr],.int .i64 0]:Value):=(A0 2 12 Z Z);(with_reducible obtain⟨E5,od,Ao,Ab,B2⟩:=A2);refine aa (cN (v:=.agg #[.slice E5 xs.length od,.slice Ao k Ab,S (qR cn cd).1,S (qR cn cd).2,.int .i64 fr]) (by exact B2) Z ?_);refine I ?_;exact fs ⟨aa4 _,⟨_,_,_,_,rfl⟩⟩
 refine aA (λAs _ _ E0=>by have wr:∃A1 cp B1 D,As 12=(.tuple #[.agg #[.slice A1 xs.length cp,.slice B1 k D,S (qR cn cd).1,S (qR cn cd).2,.int .i64 fr],.int .i64 0]:Value):=(E0 2 12 Z Z);(with_reducible obtain⟨_,_,_,_,Aw⟩:=wr);refine aa (cN (v:=.int .i64 0) (by exact Aw) Z ?_);refine I ?_;exact aH) ?_;refine bR (fun(v:Value) (_:World)=>∃A1 cp B1 D,v=(.agg #[.slice A1 xs.length cp,.slice B1 k D,S (qR cn cd).1,S (qR cn cd).2,.int .i64 fr]:Value)) (λCr _ _ Aq=>?_) ?_;have E9:∃A1 cp B1 D,Cr 13=(.agg #[.slice A1 xs.length cp,.slice B1 k D,S (qR cn cd).1,S (qR cn cd).2,.int .i64 fr]:Value):=(Aq 3 13 Z Z);(with_reducible obtain⟨_,_,_,_,E1⟩:=E9);refine cl SG LR ?_ (av (by exact E1) (av Z Z));rintro _ _ Az rfl;refine I ?_;exact fs ⟨Az.2,⟨_,_,_,_,rfl⟩⟩;refine sf ?_;intro E6 _ E7 Ax;have E:=xt E E7.2;have Ay:∃A1 cp B1 D,E6 15=(.agg #[.slice A1 xs.length cp,.slice B1 k D,S (qR cn cd).1,S (qR cn cd).2,.int .i64 fr]:Value):=(Ax 5 15 Z Z);(with_reducible obtain⟨_,_,_,_,Af⟩:=Ay);refine cl SF (hJ _ _ _ _ _ E) ?_ (av Z (av (by exact Af) Z));rintro _ _ Ar rfl;have E:=xt E Ar.2;refine I ?_;exact am (t:=3) (v:=.int .i64 j) Z E Z Z
def A5 {xs:List R}{C0:Rows}{fr:Int}(ql:Q9 la lb)(h12:pl<=12)(hl1:0<=aN (la*1000000) (1*lb))(hl2:aN (la*2) (1*lb)<=0)(hFit:∀W,aO w W->CL 14 #[.agg #[.slice A n C,.slice Y ny CY,.slice B nb CB]] W (aG W λv w'=>∃u,v=.tuple #[u,.int .i64 0]/\ow W.heap.size w' u k xs C0 (qR cn cd) fr))(hJ:∀W A1 cp B1 D,aO w W->CL 45 #[.agg #[S ((qR la lb).1),S ((qR la lb).2),.int .i64 pl],.agg #[.slice A1 xs.length cp,.slice B1 k D,S ((qR cn cd).1),S ((qR cn cd).2),.int .i64 fr]] W (aG W λv _=>v=.int .i64 j))(ht:Tb w):
 CL 19 #[.agg #[.slice A n C,.slice Y ny CY,.slice B nb CB],QV la lb,.int .i64 pl] w (aG w λv w'=>v=.tuple #[.int .i64 j,.int .i64 0]):=by
 refine aC func19 Z (I ?_);refine bx (λA0 Af G=>?_);have E:=Af.2;refine bx (λA2 Am O=>?_);have⟨G,E⟩:=bn Am.2 G E;refine bx (λ_ Ao Ap=>?_);have⟨G,O,E⟩:=cj Ao.2 G O E;refine I ?_;refine aa (aD (vf:=[]) (vc:=[pT A0.heap.size,pT A2.heap.size,pT w.heap.size]) Z Z ?_);refine cl SD (Lr (gf:=43) (lb:=[pT A0.heap.size,pT A2.heap.size,pT w.heap.size]) SE (λW q=>Hk ql h12 hl1 hl2 (be q O) (be q Ap) (be q G) (λW2 H=>hFit W2 (xt E (xt q H))) (λW2 A1 cp B1 D H=>hJ W2 A1 cp B1 D (xt E (xt q H))) (ht.ext (xt E q)))) ?_;rintro _ _ Ab rfl;have E:=xt E Ab.2;refine I ?_;exact bu (t:=6) (u:=7) (v1:=.int .i64 j) (v2:=.int .i64 0) Z E Z Z Z
structure pY (L V:Rows)(ys:List R)(rl:List Nat)(KM KC:Rows)(KY:List R):Prop where
 lt:∀j,j<rl.length->rl.getD j 0<ys.length
 asc:∀j,j+1<rl.length->rl.getD j 0<rl.getD (j+1) 0
 le:rl.length<=8
 km:∀i,i<rl.length->KM i=L (rl.getD i 0)
 cl:∀i,i<rl.length->(KC i).length=rl.length
 ce:∀i,i<rl.length->∀k,k<rl.length->ar (KC i) k=ar (V (rl.getD i 0)) (rl.getD k 0)
 yl:KY.length=rl.length
 ye:∀i,i<rl.length->ar KY i=ar ys (rl.getD i 0)
structure gl (lo:Nat)(w:World)(A:Option Addr)(C:Nat)(Y:Option Addr)(CY:Nat)(B:Option Addr)(CB:Nat)(L V:Rows)(ys:List R):Prop where
 m:∃H,Mt w lo A ys.length H L
 y:Rw w lo Y (ag ys)
 v:∃G,Mt w lo B ys.length G V
 c:ys.length<=CB
section
variable {lo':Nat}{w':World}{L V:Rows}{ys:List R}
def gl.ext (k:aO w w')(h:gl lo w A C Y CY B CB L V ys):gl lo w' A C Y CY B CB L V ys:=by
 obtain⟨⟨b,c⟩,e,⟨g,i⟩,j⟩:=h
 exact⟨⟨b,c.ext k⟩,e.ext k,⟨g,i.ext k⟩,j⟩
def gl.put (k:eE w w' x)(hx:x<lo)(h:gl lo w A C Y CY B CB L V ys):gl lo w' A C Y CY B CB L V ys:=by
 obtain⟨⟨b,c⟩,e,⟨g,i⟩,j⟩:=h
 exact⟨⟨b,Mt.put k hx c⟩,Rw.put k hx e,⟨g,Mt.put k hx i⟩,j⟩
def gl.mono (hl:lo'<=lo)(h:gl lo w A C Y CY B CB L V ys):gl lo' w A C Y CY B CB L V ys:=by
 obtain⟨⟨b,c⟩,e,⟨g,i⟩,j⟩:=h
 exact⟨⟨b,c.mono hl⟩,e.mono hl,⟨g,i.mono hl⟩,j⟩
def gl.des (h:gl lo w A C Y CY B CB L V ys):ey w A C Y CY B CB L V ys:=by
 obtain⟨⟨b,c⟩,e,⟨g,i⟩,j⟩:=h
 exact⟨⟨_,b,c⟩,⟨_,e⟩,⟨_,g,i⟩,j⟩
end
set_option maxHeartbeats 4000000 in
set_option maxRecDepth 100000 in
def LS {L V:Rows}{ys:List R}(hD:ey w A C Y CY B CB L V ys)(ok:eT L V ys){KM KC:Rows}{KY:List R}(hR:Rw w lo5 kd (ints rl))(pe:pY L V ys rl KM KC KY)(okq:eT KM KC KY)(ht:Tb w):
 CL 53 #[.agg #[.slice A ys.length C,.slice Y ys.length CY,.slice B ys.length CB],.slice kd rl.length CR] w (aG w λv w'=>∃A C Y CY B CB,v=.agg #[.slice A KY.length C,.slice Y KY.length CY,.slice B KY.length CB]/\gl w.heap.size w' A C Y CY B CB KM KC KY):=by
 obtain⟨_,H,hM⟩:=hD.m;obtain⟨_,hy⟩:=hD.y;obtain⟨_,G,hV⟩:=hD.v;have hrl8:=pe.le;have hL8:=(gZ ok.hv).2.2.2.1;have Ym:=VM.ok (gZ ok.hv);have okV:=VM.ok (gZ ok.hv3);have hVl:=ok.hVl;have hkl:=pe.yl;refine aC func53 Z (I ?_);refine bx (λcy aub cw=>?_);have ar6:=aub.2;refine al ee (λcv asr fx=>?_);have⟨cw,ar6⟩:=bn asr.2 cw ar6;refine I ?_;have auc:World.ownsRow cv cv.heap.size 28 1 (.slice none 0 0) 0 []:=bK;have aud:Wr cv cv.heap.size cv.heap.size 0 (λ_=>.nilIface) KM:=Wr.nil;have aue:World.ownsRow cv cv.heap.size 28 1 (.slice none 0 0) 0 []:=bK;have auf:Wr cv cv.heap.size cv.heap.size 0 (λ_=>.nilIface) KC:=Wr.nil;have aug:World.ownsRow cv cv.heap.size 33 2 (.slice none 0 0) 0 (ag []):=bK
 refine cg [(5,7),(9,9),(12,97)] (λkk e W=>∃i9x:Nat,∃H2:Nat->Value,∃vm:Value,∃H3:Nat->Value,∃vc:Value,∃acY:List R,∃vy:Value,(rl.length-i9x=kk)/\(e 12=.int .i64 i9x)/\(i9x<=rl.length)/\(∀zz,zz<i9x->az vm (H2 zz))/\(∀zz,zz<i9x->az vm (H3 zz))/\(∀zz,zz<i9x->az vc (H2 zz))/\(∀zz,zz<i9x->az vc (H3 zz))/\(∀zz,zz<i9x->az vy (H2 zz))/\(∀zz,zz<i9x->az vy (H3 zz))/\(acY.length=i9x)/\(∀j,j<i9x->ar acY j=ar ys (rl.getD j 0))/\(cv.heap.size<=W.heap.size)/\((vm).ownBlock≠some w.heap.size)/\((vm).ownBlock≠some cy.heap.size)/\((vc).ownBlock≠some w.heap.size)/\((vc).ownBlock≠some cy.heap.size)/\((vy).ownBlock≠some w.heap.size)/\((vy).ownBlock≠some cy.heap.size)/\(az vm vc)/\(az vm vy)/\(az vc vy)/\(aO w W)/\(ap W w.heap.size 82 #[.slice A ys.length C,.slice Y ys.length CY,.slice B ys.length CB])/\(W.ownsRow cv.heap.size 28 1 vm i9x ((List.range i9x).map H2))/\(Wr W cv.heap.size W.heap.size i9x H2 KM)/\(W.ownsRow cv.heap.size 28 1 vc i9x ((List.range i9x).map H3))/\(Wr W cv.heap.size W.heap.size i9x H3 KC)/\(W.ownsRow cv.heap.size 33 2 vy acY.length (ag acY))/\(ap W cy.heap.size 30 #[vm,vy,vc])) (rl.length-0) ⟨0,(λ_=>.nilIface),.slice none 0 0,(λ_=>.nilIface),.slice none 0 0,[],.slice none 0 0,rfl,rfl,(qa7 _),(λj hj=>by omega),(λj hj=>by omega),(λj hj=>by omega),(λj hj=>by omega),(λj hj=>by omega),(λj hj=>by omega),rfl,(λj hj=>by omega),(qa0 _),(λe=>by cases e),(λe=>by cases e),(λe=>by cases e),(λe=>by cases e),(λe=>by cases e),(λe=>by cases e),(aa6 ac6),(aa6 ac6),(aa6 ac6),ar6,cw,auc,aud,aue,auf,aug,fx⟩ ?_
 rintro _ _ wr ⟨i9x,H2,vm,H3,vc,acY,vy,rfl,aqj,hi9x,hap11,hap13,hap31,hap33,hapy1,hapy3,halY,hacY,a0t,ass,ast,auh,aui,asu,asv,asw,asx,asy,lq,cw,hout,hwr,hout3,hwr3,hyrow,fx⟩;by_cases hlo:i9x<rl.length;have hri:=pe.lt i9x hlo;have hLr:=(Ym (rl.getD i9x 0) hri).1;have hVr:=(okV (rl.getD i9x 0) hri).1;have hasc:¬i9x=0->rl.getD (i9x-1) 0<(rl.getD i9x 0):=λh=>by have:=pe.asc (i9x-1) U;rwa [show i9x-1+1=i9x by omega]at this
 have zq1q:=pI (hR.ext lq) (i:=(i9x)) U;refine I ?_;refine gN zq1q ?_;refine gx ?_;refine iS ?_;refine Tx [(17,39)] (λe W=>(aO w W)/\(wr.heap.size<=W.heap.size)/\(ap W w.heap.size 82 #[.slice A ys.length C,.slice Y ys.length CY,.slice B ys.length CB])/\(W.ownsRow cv.heap.size 28 1 vm i9x ((List.range i9x).map H2))/\(Wr W cv.heap.size wr.heap.size i9x H2 KM)/\(W.ownsRow cv.heap.size 28 1 vc i9x ((List.range i9x).map H3))/\(Wr W cv.heap.size wr.heap.size i9x H3 KC)/\(W.ownsRow cv.heap.size 33 2 vy acY.length (ag acY))/\(ap W cy.heap.size 30 #[vm,vy,vc])) ?_ ?_;by_cases od:(i9x:Int)=0;refine I ?_;(try refine aa (aP (cs:=[.slice A ys.length C,.slice Y ys.length CY,.slice B ys.length CB]) (b:=w.heap.size) (o:=0) nw Z nK Z (aa0 cw (i:=0) Z) ?_));refine I ?_;refine cl xy pR ?_;rintro _ _ apr rfl;have cw:=be apr.2 cw;have hout:=ab apr.2 hout;have hwr:=aa2 apr.2 hwr;have hout3:=ab apr.2 hout3;have hwr3:=aa2 apr.2 hwr3;have hyrow:=ab apr.2 hyrow;have⟨fx,lq⟩:=bn apr.2 fx lq;refine I ?_;refine cl fE dh ?_;rintro _ _ aps rfl;have cw:=be aps.2 cw;have hout:=ab aps.2 hout;have hwr:=aa2 aps.2 hwr;have hout3:=ab aps.2 hout3;have hwr3:=aa2 aps.2 hwr3;have hyrow:=ab aps.2 hyrow;have⟨fx,lq⟩:=bn aps.2 fx lq;refine I ?_
 exact Ct ⟨lq,U,cw,hout,hwr,hout3,hwr3,hyrow,fx⟩;refine I ?_;(try refine aa (aP (cs:=[.slice A ys.length C,.slice Y ys.length CY,.slice B ys.length CB]) (b:=w.heap.size) (o:=0) nw Z nK Z (aa0 cw (i:=0) Z) ?_));refine I ?_;refine cl xy pR ?_;rintro _ _ apt rfl;have cw:=be apt.2 cw;have hout:=ab apt.2 hout;have hwr:=aa2 apt.2 hwr;have hout3:=ab apt.2 hout3;have hwr3:=aa2 apt.2 hwr3;have hyrow:=ab apt.2 hyrow;have⟨fx,lq⟩:=bn apt.2 fx lq;refine I ?_;refine oE (I ?_);refine aa (HV (a:=(i9x:Int)-1) (b:=0) (m:=((i9x-1:Nat):Int)) Z Z kd2 ?_);have zq2q:=pI (hR.ext lq) (i:=(i9x-1)) U;refine I ?_;refine gN zq2q (I ?_);refine cl fE dh ?_ (av (congrArg Value.bool (decide_eq_true U)) Z);rintro _ _ apu rfl;have cw:=be apu.2 cw;have hout:=ab apu.2 hout;have hwr:=aa2 apu.2 hwr;have hout3:=ab apu.2 hout3;have hwr3:=aa2 apu.2 hwr3;have hyrow:=ab apu.2 hyrow;have⟨fx,lq⟩:=bn apu.2 fx lq;refine I ?_;exact Ct ⟨lq,U,cw,hout,hwr,hout3,hwr3,hyrow,fx⟩;rintro _ aqe ⟨asz,a04,cw,hout,hwr,hout3,hwr3,hyrow,fx⟩;have a05:=bz asz;refine I ?_;have auj:World.ownsRow aqe aqe.heap.size 33 2 (.slice none 0 0) 0 (ag []):=bK
 refine cg [(7,7),(9,9),(42,67)] (λkk e W=>∃k:Nat,∃ac:List R,∃vrow:Value,(rl.length-k=kk)/\(e 42=.int .i64 k)/\(e 7=vrow)/\(k<=rl.length)/\(ac.length=k)/\(∀j,j<k->ar ac j=ar (V (rl.getD i9x 0)) (rl.getD j 0))/\(aqe.heap.size<=W.heap.size)/\((vrow).ownBlock≠some w.heap.size)/\((vrow).ownBlock≠some cy.heap.size)/\(az vm vrow)/\(az vc vrow)/\(az vy vrow)/\(aO w W)/\(ap W w.heap.size 82 #[.slice A ys.length C,.slice Y ys.length CY,.slice B ys.length CB])/\(W.ownsRow cv.heap.size 28 1 vm i9x ((List.range i9x).map H2))/\(Wr W cv.heap.size wr.heap.size i9x H2 KM)/\(W.ownsRow cv.heap.size 28 1 vc i9x ((List.range i9x).map H3))/\(Wr W cv.heap.size wr.heap.size i9x H3 KC)/\(W.ownsRow cv.heap.size 33 2 vy acY.length (ag acY))/\(ap W cy.heap.size 30 #[vm,vy,vc])/\(W.ownsRow aqe.heap.size 33 2 vrow ac.length (ag ac))) (rl.length-0) ⟨0,[],.slice none 0 0,rfl,rfl,rfl,(qa7 _),rfl,(λj hj=>by omega),(qa0 _),(λe=>by cases e),(λe=>by cases e),(aa6 ac6),(aa6 ac6),(aa6 ac6),asz,cw,hout,hwr,hout3,hwr3,hyrow,fx,auj⟩ ?_;rintro _ _ aqk ⟨k,ac,vrow,rfl,aq0,as0,hi_k,hal_ac,hacf,a08,as1,aql,aq1,ar7,aq2,cf,cw,hout,hwr,hout3,hwr3,hyrow,fx,hrow⟩;by_cases hlk:k<rl.length;have hrk:=pe.lt k hlk;have zq3q:=pI (hR.ext cf) (i:=(k)) U;refine I ?_
 refine gN zq3q (I ?_);(try refine aa (aP (cs:=[.slice A ys.length C,.slice Y ys.length CY,.slice B ys.length CB]) (b:=w.heap.size) (o:=0) nw Z nK Z (aa0 cw (i:=0) Z) ?_));refine I ?_;refine cl xy pR ?_;rintro _ _ apl rfl;have cw:=be apl.2 cw;have hout:=ab apl.2 hout;have hwr:=aa2 apl.2 hwr;have hout3:=ab apl.2 hout3;have hwr3:=aa2 apl.2 hwr3;have hyrow:=ab apl.2 hyrow;have fx:=be apl.2 fx;have hrow:=ab apl.2 hrow;have cf:=xt cf apl.2;refine I ?_;refine cl fE dh ?_ (av (qb2 Value.bool (qa1 U)) Z);rintro _ _ apm rfl;have cw:=be apm.2 cw;have hout:=ab apm.2 hout;have hwr:=aa2 apm.2 hwr;have hout3:=ab apm.2 hout3;have hwr3:=aa2 apm.2 hwr3;have hyrow:=ab apm.2 hyrow;have fx:=be apm.2 fx;have hrow:=ab apm.2 hrow;have cf:=xt cf apm.2;refine I ?_;refine aa (aW (v:=vrow) as0 ?_);have zq4q:=ab1 (hV.ext cf) (i:=((rl).getD i9x 0)) U;refine I ?_;refine gN zq4q ?_;have zq5q:=ad3 (hV.ext cf) (i:=((rl).getD i9x 0)) (k:=((rl).getD k 0)) U U;refine I ?_;refine mu zq5q (I ?_);refine BS (λ_ ao8 _ auk=>?_);have cw:=be ao8 cw;have hout:=ab ao8 hout;have hwr:=aa2 ao8 hwr;have hout3:=ab ao8 hout3;have hwr3:=aa2 ao8 hwr3;have hyrow:=ab ao8 hyrow;have fx:=be ao8 fx;have hrow:=ab ao8 hrow
 have cf:=xt cf ao8;refine AP hrow (aa8 auk) (λas2 _ aul apn aqm=>?_);have aum:=aQ aqm as1 (bt cw);have aun:=aQ aqm aql (bt fx);have cw:=aa3 apn (λe=>as1 e.symm) cw;have auo:=aa9 aqm (aa6 aq1) hout;have hout:=ab3 (aa6 aq1) apn hout;have hwr:=Wr.gr apn (λg e=>Or.inr (qa8 U (aU hrow g e))) hwr;have aup:=aa9 aqm (aa6 ar7) hout3;have hout3:=ab3 (aa6 ar7) apn hout3;have hwr3:=Wr.gr apn (λg e=>Or.inr (qa8 U (aU hrow g e))) hwr3;have auq:=aa9 aqm (aa6 aq2) hyrow;have hyrow:=ab3 (aa6 aq2) apn hyrow;have fx:=aa3 apn (λe=>aql e.symm) fx;have cf:=bm hrow U U cf apn;have a1m:=apn.size;refine aa (aK (v:=as2) Z ?_);refine I ?_;refine gP (I ?_);exact bI ⟨k+1,ac++[(ar (V (rl.getD i9x 0)) (rl.getD k 0))],as2,rfl,rfl,rfl,U,q4,(sQ (f:=λj=>ar (V (rl.getD i9x 0)) (rl.getD j 0)) hal_ac hacf),U,aum,aun,(aa6 auo),(aa6 aup),(aa6 auq),cf,cw,hout,hwr,hout3,hwr3,hyrow,fx,(aM aul Wf (dl _ (ar (V (rl.getD i9x 0)) (rl.getD k 0))))⟩;refine I ?_;have ar8:=dI hout;have aur:=dI hout3;have as3:=dI hyrow;have aus:=dI hrow;have ao9:=ac3 aqk
 refine xI 27 (λls e W=>∃cm:Value,∃mq:Nat,∃cr:Value,∃ly:Nat,∃cx:Value,∃lr:Nat,∃lp:Value,(aO w W)/\(aqk.heap.size<=W.heap.size)/\(ls 8=true->e 76=cm)/\(ls 9=true->e 77=.slice (some ⟨mq,0,none⟩) 1 1)/\(ls 10=true->e 78=cr)/\(ls 19=true->e 87=.slice (some ⟨ly,0,none⟩) 1 1)/\(ls 20=true->e 88=cx)/\(ls 24=true->e 92=.slice (some ⟨lr,0,none⟩) 1 1)/\(ls 25=true->e 93=lp)/\(ls 9=true->aqk.heap.size<=mq/\mq<W.heap.size)/\(ls 19=true->aqk.heap.size<=ly/\ly<W.heap.size)/\(ls 24=true->aqk.heap.size<=lr/\lr<W.heap.size)/\(ls 9=true->ls 19=true->mq≠ly)/\(ls 9=true->ls 24=true->mq≠lr)/\(ls 19=true->ls 24=true->ly≠lr)/\(ap W w.heap.size 82 #[.slice A ys.length C,.slice Y ys.length CY,.slice B ys.length CB])/\(ls 10=false->(W.ownsRow cv.heap.size 28 1 vm i9x ((List.range i9x).map H2)))/\(ls 10=true->ls 20=false->(W.ownsRow cv.heap.size 28 1 cr (i9x+1) (((List.range i9x).map H2)++[cm])/\((cr).ownBlock≠some w.heap.size)/\((cr).ownBlock≠some cy.heap.size)/\(az cr vc)/\(az cr vy)/\(az cr vrow)/\(az cr cm)/\(∀jx,jx<i9x->az cr (H2 jx))/\(∀jx,jx<i9x->az cr (H3 jx))))/\(ls 20=true->ls 25=false->(W.ownsRow cv.heap.size 28 1 cr (i9x+1) (((List.range i9x).map H2)++[cm])/\((cr).ownBlock≠some w.heap.size)/\((cr).ownBlock≠some cy.heap.size)/\(az cr vc)/\(az cr vrow)/\(az cr cm)/\(∀jx,jx<i9x->az cr (H2 jx))/\(∀jx,jx<i9x->az cr (H3 jx))))/\(ls 25=true->(W.ownsRow cv.heap.size 28 1 cr (i9x+1) (((List.range i9x).map H2)++[cm])/\((cr).ownBlock≠some w.heap.size)/\((cr).ownBlock≠some cy.heap.size)/\(az cr vrow)/\(az cr cm)/\(∀jx,jx<i9x->az cr (H2 jx))/\(∀jx,jx<i9x->az cr (H3 jx))))/\(Wr W cv.heap.size wr.heap.size i9x H2 KM)/\(ls 20=false->(W.ownsRow cv.heap.size 28 1 vc i9x ((List.range i9x).map H3)))/\(ls 20=true->ls 25=false->(W.ownsRow cv.heap.size 28 1 vc i9x ((List.range i9x).map H3)/\((vc).ownBlock≠some w.heap.size)/\((vc).ownBlock≠some cy.heap.size)/\(az vc vrow)/\(∀jx,jx<i9x->az vc (H2 jx))/\(∀jx,jx<i9x->az vc (H3 jx))))/\(ls 25=true->(W.ownsRow cv.heap.size 28 1 lp (i9x+1) (((List.range i9x).map H3)++[vrow])/\((lp).ownBlock≠some w.heap.size)/\((lp).ownBlock≠some cy.heap.size)/\(az lp cr)/\(az lp cx)/\(az lp vrow)/\(az lp cm)/\(∀jx,jx<i9x->az lp (H2 jx))/\(∀jx,jx<i9x->az lp (H3 jx))))/\(Wr W cv.heap.size wr.heap.size i9x H3 KC)/\(ls 20=false->(W.ownsRow cv.heap.size 33 2 vy acY.length (ag acY)))/\(ls 20=true->ls 25=false->(W.ownsRow cv.heap.size 33 2 cx (acY.length+1) ((ag acY)++[S ((ar ys ((rl).getD i9x 0)).1),S ((ar ys ((rl).getD i9x 0)).2)])/\((cx).ownBlock≠some w.heap.size)/\((cx).ownBlock≠some cy.heap.size)/\(az cx cr)/\(az cx vc)/\(az cx vrow)/\(az cx cm)/\(∀jx,jx<i9x->az cx (H2 jx))/\(∀jx,jx<i9x->az cx (H3 jx))))/\(ls 25=true->(W.ownsRow cv.heap.size 33 2 cx (acY.length+1) ((ag acY)++[S ((ar ys ((rl).getD i9x 0)).1),S ((ar ys ((rl).getD i9x 0)).2)])/\((cx).ownBlock≠some w.heap.size)/\((cx).ownBlock≠some cy.heap.size)/\(az cx cr)/\(az cx vrow)/\(az cx cm)/\(∀jx,jx<i9x->az cx (H2 jx))/\(∀jx,jx<i9x->az cx (H3 jx))))/\(ap W cy.heap.size 30 #[vm,vy,vc])/\(W.ownsRow aqe.heap.size 33 2 vrow ac.length (ag ac))/\(ls 8=true->ls 10=false->(W.ownsRow wr.heap.size 33 2 cm ((L ((rl).getD i9x 0)).length) (ag (L ((rl).getD i9x 0)))/\(az cm vm)/\(az cm vc)/\(az cm vy)/\(az cm vrow)))/\(ls 10=true->ls 20=false->(W.ownsRow wr.heap.size 33 2 cm ((L ((rl).getD i9x 0)).length) (ag (L ((rl).getD i9x 0)))/\(az cm vc)/\(az cm vy)/\(az cm vrow)))/\(ls 20=true->ls 25=false->(W.ownsRow wr.heap.size 33 2 cm ((L ((rl).getD i9x 0)).length) (ag (L ((rl).getD i9x 0)))/\(az cm vc)/\(az cm vrow)))/\(ls 25=true->(W.ownsRow wr.heap.size 33 2 cm ((L ((rl).getD i9x 0)).length) (ag (L ((rl).getD i9x 0)))/\(az cm vrow)))/\(ls 9=true->ls 10=false->(World.ownsRow W mq 28 1 (.slice (some ⟨mq,0,none⟩) 1 1) 1 [cm]))/\(ls 19=true->ls 20=false->(World.ownsRow W ly 33 2 (.slice (some ⟨ly,0,none⟩) 1 1) 1 [S ((ar ys ((rl).getD i9x 0)).1),S ((ar ys ((rl).getD i9x 0)).2)]))/\(ls 24=true->ls 25=false->(World.ownsRow W lr 28 1 (.slice (some ⟨lr,0,none⟩) 1 1) 1 [vrow]))) ⟨.nilIface,0,.nilIface,0,.nilIface,0,.nilIface,(xt cf ao9),(bz ao9),(ff Z),(ff Z),(ff Z),(ff Z),(ff Z),(ff Z),(ff Z),(ff Z),(ff Z),(ff Z),(ff Z),(ff Z),(ff Z),(be ao9 cw),(λ_=>(ab ao9 hout)),(λh _=>ff Z h),(λh _=>ff Z h),(λh=>ff Z h),(aa2 ao9 hwr),(λ_=>(ab ao9 hout3)),(λh _=>ff Z h),(λh=>ff Z h),(aa2 ao9 hwr3),(λ_=>(ab ao9 hyrow)),(λh _=>ff Z h),(λh=>ff Z h),(be ao9 fx),(ab ao9 hrow),(λh _=>ff Z h),(λh _=>ff Z h),(λh _=>ff Z h),(λh=>ff Z h),(λh _=>ff Z h),(λh _=>ff Z h),(λh _=>ff Z h)⟩ ?_
 refine sf ?_;refine db (λa1u a1v a1w _ aut a1x _=>by obtain⟨_,_,_,_,_,_,_,_,_,_,_,_,_,_,_,_,_,_,_,_,_,_,_,_,_,_,_,_,_,_,_,_,_,_,_,nm,_⟩:=aut;refine I ?_;exact aH) ?_;refine sf ?_;refine db (λa19 a2a a2b _ auu a2c _=>by obtain⟨_,_,_,_,_,_,_,_,_,_,_,_,_,_,_,_,_,_,_,_,_,_,np,_⟩:=auu;refine I ?_;exact aH) ?_;refine sf ?_;refine db (λa2i a2j a2k _ auv a2l _=>by obtain⟨_,_,_,_,_,_,_,cf,_⟩:=auv;have zq6q:=ab1 (hM.ext cf) (i:=((rl).getD i9x 0)) U;refine I ?_;refine gN zq6q ?_;refine I ?_;exact aH) ?_;refine db (λa2m a2n a2o _ auw a2p _=>by obtain⟨_,_,_,_,_,_,_,cf,_⟩:=auw;have zq7q:=ab1 (hM.ext cf) (i:=((rl).getD i9x 0)) U;refine I ?_;exact aH) ?_;refine gw (λ_ _ _ aux fy wz _=>?_) ?_;obtain⟨cm,mq,cr,ly,cx,lr,lp,cf,zst,w5,w7,w8,w9,aol,aom,aon,nq,ns,nv,aox,aoy,aoz,np,ao0,ao1,apa,apv,p6,aor,apb,apw,r8,aos,apc,apx,nm,sc,aot,ao2,apd,apy,ape,ao3,aou⟩:=aux;have aq3:=np;have ar9:=ao0 (bS fy (i:=8) (j:=10) Z wz);have asa:=p6;have asb:=aor (bS fy (i:=10) (j:=20) Z (bS fy (i:=8) (j:=10) Z wz));have asd:=r8;have ase:=aos (bS fy (i:=10) (j:=20) Z (bS fy (i:=8) (j:=10) Z wz));have aq4:=nm;have asf:=sc;refine clb R9 (hc:=uF (Mt.row (hM.ext cf) ((rl).getD i9x 0) U) U) (hk:=?_);rintro aqn _ ao4 aqc;have ao4:=ao4.2
 have auy:az aqn (vm):=λg h1 h2=>by have h3:=aU aqc _ h1;have h4:=ar8 _ h2;omega
 have auz:az aqn (vc):=λg h1 h2=>by have h3:=aU aqc _ h1;have h4:=aur _ h2;omega
 have au0:az aqn (vy):=λg h1 h2=>by have h3:=aU aqc _ h1;have h4:=as3 _ h2;omega
 have au1:az aqn (vrow):=λg h1 h2=>by have h3:=aU aqc _ h1;have h4:=aus _ h2;omega
 have aqc:=ck (lo':=wr.heap.size) U aqc;have aq3:=be ao4 aq3;have ar9:=ab ao4 ar9;have asa:=aa2 ao4 asa;have asb:=ab ao4 asb;have asd:=aa2 ao4 asd;have ase:=ab ao4 ase;have aq4:=be ao4 aq4;have asf:=ab ao4 asf;have cf:=xt cf ao4;refine I ?_
 exact fs ⟨aqn,mq,cr,ly,cx,lr,lp,cf,U,(λ_=>rfl),w7,w8,w9,aol,aom,aon,(λx=>by have:=nq x;omega),(λx=>by have:=ns x;omega),(λx=>by have:=nv x;omega),aox,aoy,aoz,aq3,(λ_=>ar9),(λau2 _=>ff (bS fy (i:=8) (j:=10) Z wz) au2),(λau3 _=>ff (bS fy (i:=10) (j:=20) Z (bS fy (i:=8) (j:=10) Z wz)) au3),(λau4=>ff (bS fy (i:=20) (j:=25) Z (bS fy (i:=10) (j:=20) Z (bS fy (i:=8) (j:=10) Z wz))) au4),asa,(λ_=>asb),(λau5 _=>ff (bS fy (i:=10) (j:=20) Z (bS fy (i:=8) (j:=10) Z wz)) au5),(λau6=>ff (bS fy (i:=20) (j:=25) Z (bS fy (i:=10) (j:=20) Z (bS fy (i:=8) (j:=10) Z wz))) au6),asd,(λ_=>ase),(λau7 _=>ff (bS fy (i:=10) (j:=20) Z (bS fy (i:=8) (j:=10) Z wz)) au7),(λau8=>ff (bS fy (i:=20) (j:=25) Z (bS fy (i:=10) (j:=20) Z (bS fy (i:=8) (j:=10) Z wz))) au8),aq4,asf,(λ_ _=>⟨aqc,auy,auz,au0,au1⟩),(λau9 _=>ff (bS fy (i:=8) (j:=10) Z wz) au9),(λava _=>ff (bS fy (i:=10) (j:=20) Z (bS fy (i:=8) (j:=10) Z wz)) ava),(λavb=>ff (bS fy (i:=20) (j:=25) Z (bS fy (i:=10) (j:=20) Z (bS fy (i:=8) (j:=10) Z wz))) avb),(λavc _=>ff (bS fy (i:=8) (j:=9) Z wz) avc),(λavd ave=>(ab ao4 (ao3 avd ave))),(λavf avg=>(ab ao4 (aou avf avg)))⟩
 refine gw (λ_ avh _ avi lm aoo as4=>?_) ?_;obtain⟨cm,mq,cr,ly,cx,lr,lp,cf,zst,w5,w7,w8,w9,aol,aom,aon,nq,ns,nv,aox,aoy,aoz,np,ao0,ao1,apa,apv,p6,aor,apb,apw,r8,aos,apc,apx,nm,sc,aot,ao2,apd,apy,ape,ao3,aou⟩:=avi;have avj:=w5 (as4 8 Z);have aq5:=np;have aq6:=ao0 (bS lm (i:=9) (j:=10) Z aoo);have asg:=p6;have aq7:=aor (bS lm (i:=10) (j:=20) Z (bS lm (i:=9) (j:=10) Z aoo));have ash:=r8;have aq8:=aos (bS lm (i:=10) (j:=20) Z (bS lm (i:=9) (j:=10) Z aoo));have aq9:=nm;have ara:=sc;obtain⟨aqo,avk,avl,avm,avn⟩:=aot (as4 8 Z) (bS lm (i:=9) (j:=10) Z aoo);refine aa (cH (vs:=[(0,cm)]) (cells:=#[cm]) R7 jB (cY avj Z) dc dc (jO _ (bQ aqo)) Z dc (λ_ aov _ avo=>?_));have aq5:=be aov aq5;have aq6:=ab aov aq6;have asg:=aa2 aov asg;have aq7:=ab aov aq7;have ash:=aa2 aov ash;have aq8:=ab aov aq8;have aq9:=be aov aq9;have ara:=ab aov ara;have aqo:=ab aov aqo;have cf:=xt cf aov;refine I ?_
 exact fs ⟨cm,avh.heap.size,cr,ly,cx,lr,lp,cf,U,w5,(λ_=>rfl),w8,w9,aol,aom,aon,(λ_=>⟨by omega,by omega⟩),(λx=>by have:=ns x;omega),(λx=>by have:=nv x;omega),(λ_ x=>by have:=ns x;omega),(λ_ x=>by have:=nv x;omega),aoz,aq5,(λ_=>aq6),(λavp _=>ff (bS lm (i:=9) (j:=10) Z aoo) avp),(λavq _=>ff (bS lm (i:=10) (j:=20) Z (bS lm (i:=9) (j:=10) Z aoo)) avq),(λavr=>ff (bS lm (i:=20) (j:=25) Z (bS lm (i:=10) (j:=20) Z (bS lm (i:=9) (j:=10) Z aoo))) avr),asg,(λ_=>aq7),(λavs _=>ff (bS lm (i:=10) (j:=20) Z (bS lm (i:=9) (j:=10) Z aoo)) avs),(λavt=>ff (bS lm (i:=20) (j:=25) Z (bS lm (i:=10) (j:=20) Z (bS lm (i:=9) (j:=10) Z aoo))) avt),ash,(λ_=>aq8),(λavu _=>ff (bS lm (i:=10) (j:=20) Z (bS lm (i:=9) (j:=10) Z aoo)) avu),(λavv=>ff (bS lm (i:=20) (j:=25) Z (bS lm (i:=10) (j:=20) Z (bS lm (i:=9) (j:=10) Z aoo))) avv),aq9,ara,(λ_ _=>⟨aqo,avk,avl,avm,avn⟩),(λavw _=>ff (bS lm (i:=9) (j:=10) Z aoo) avw),(λavx _=>ff (bS lm (i:=10) (j:=20) Z (bS lm (i:=9) (j:=10) Z aoo)) avx),(λavy=>ff (bS lm (i:=20) (j:=25) Z (bS lm (i:=10) (j:=20) Z (bS lm (i:=9) (j:=10) Z aoo))) avy),(λ_ _=>avo),(λavz av0=>(ab aov (ao3 avz av0))),(λav1 av2=>(ab aov (aou av1 av2)))⟩
 refine gw (λ_ _ _ av3 aop aow arb=>?_) ?_;obtain⟨cm,mq,cr,ly,cx,lr,lp,cf,zst,w5,w7,w8,w9,aol,aom,aon,nq,ns,nv,aox,aoy,aoz,np,ao0,ao1,apa,apv,p6,aor,apb,apw,r8,aos,apc,apx,nm,sc,aot,ao2,apd,apy,ape,ao3,aou⟩:=av3;have av4:=w7 (arb 9 Z);have a3u:=bz cf;have asi:=nq (arb 9 Z);have aqp:=np;have as5:=ao0 aow;have arc:=p6;have ard:=aor (bS aop (i:=10) (j:=20) Z aow);have arf:=r8;have arh:=aos (bS aop (i:=10) (j:=20) Z aow);have aqq:=nm;have a3w:=bt aqq;have ari:=sc;obtain⟨aqr,as6,av5,av6,av7⟩:=aot (arb 8 Z) aow;have av8:=ape (arb 9 Z) aow;refine AP as5 (aa8 av8) (λasj _ av9 ao5 apz=>?_) (h1:=Ty (bQ aqr));have awa:=aQ apz ass (bt aqp);have awb:=aQ apz ast (bt aqq);have awc:∀jx,jx<i9x->az asj (H2 jx):=λjx hi=>aa9 apz (hap11 jx hi) (Wr.own arc jx hi);have awd:∀jx,jx<i9x->az asj (H3 jx):=λjx hi=>aa9 apz (hap13 jx hi) (Wr.own arf jx hi);have aqp:=aa3 ao5 (λe=>ass e.symm) aqp;have arc:=ac8 ao5 hap11 arc;have awe:=aa9 apz asw ard;have ard:=ab3 asw ao5 ard;have arf:=ac8 ao5 hap13 arf;have awf:=aa9 apz asx arh;have arh:=ab3 asx ao5 arh;have aqq:=aa3 ao5 (λe=>ast e.symm) aqq;have awg:=aa9 apz aq1 ari;have ari:=ab3 aq1 ao5 ari;have awh:=aa9 apz (aa6 as6) aqr;have aqr:=ab3 (aa6 as6) ao5 aqr
 have cf:=bm as5 U U cf ao5;have a3y:=ao5.size;refine I ?_;exact fs ⟨cm,mq,asj,ly,cx,lr,lp,cf,U,w5,w7,(λ_=>rfl),w9,aol,aom,aon,(λx=>by have:=nq x;omega),(λx=>by have:=ns x;omega),(λx=>by have:=nv x;omega),aox,aoy,aoz,aqp,(λawi=>tf Z awi),(λ_ _=>⟨av9,awa,awb,awe,awf,awg,awh,awc,awd⟩),(λawj _=>ff (bS aop (i:=10) (j:=20) Z aow) awj),(λawk=>ff (bS aop (i:=20) (j:=25) Z (bS aop (i:=10) (j:=20) Z aow)) awk),arc,(λ_=>ard),(λawl _=>ff (bS aop (i:=10) (j:=20) Z aow) awl),(λawm=>ff (bS aop (i:=20) (j:=25) Z (bS aop (i:=10) (j:=20) Z aow)) awm),arf,(λ_=>arh),(λawn _=>ff (bS aop (i:=10) (j:=20) Z aow) awn),(λawo=>ff (bS aop (i:=20) (j:=25) Z (bS aop (i:=10) (j:=20) Z aow)) awo),aqq,ari,(λ_ awp=>tf Z awp),(λ_ _=>⟨aqr,av5,av6,av7⟩),(λawq _=>ff (bS aop (i:=10) (j:=20) Z aow) awq),(λawr=>ff (bS aop (i:=20) (j:=25) Z (bS aop (i:=10) (j:=20) Z aow)) awr),(λ_ aws=>tf Z aws),(λas7 awt=>(nI ao5 (λg e e2=>by cases e;have:ly<_:=ar8 _ e2.symm;have:=ns as7;omega) (ao3 as7 awt))),(λas8 awu=>(nI ao5 (λg e e2=>by cases e;have:lr<_:=ar8 _ e2.symm;have:=nv as8;omega) (aou as8 awu)))⟩;refine sf ?_
 refine db (λa4b a4c a4d _ awv a4e _=>by obtain⟨_,_,_,_,_,_,_,_,_,_,_,_,_,_,_,_,_,_,_,_,_,_,_,_,_,_,_,_,_,_,_,_,_,_,_,nm,_⟩:=awv;refine I ?_;exact aH) ?_;refine sf ?_;refine db (λa4p a4q a4r _ aww a4s _=>by obtain⟨_,_,_,_,_,_,_,_,_,_,_,_,_,_,_,_,_,_,_,_,_,_,np,_⟩:=aww;refine I ?_;exact aH) ?_;refine sf ?_;refine db (λa4y a4z a40 _ awx a41 _=>by obtain⟨_,_,_,_,_,_,_,cf,_⟩:=awx;have zq8q:=bD (hy.ext cf) (k:=((rl).getD i9x 0)) U;refine I ?_;refine mu zq8q ?_;refine I ?_;exact aH) ?_;refine db (λa42 a43 a44 _ awy a45 _=>by obtain⟨_,_,_,_,_,_,_,cf,_⟩:=awy;have zq9q:=bD (hy.ext cf) (k:=((rl).getD i9x 0)) U;refine I ?_;exact aH) ?_;refine gw (λ_ awz _ aw0 aoq apf _=>?_) ?_;obtain⟨cm,mq,cr,ly,cx,lr,lp,cf,zst,w5,w7,w8,w9,aol,aom,aon,nq,ns,nv,aox,aoy,aoz,np,ao0,ao1,apa,apv,p6,aor,apb,apw,r8,aos,apc,apx,nm,sc,aot,ao2,apd,apy,ape,ao3,aou⟩:=aw0;have arj:=np;have ask:=p6;have ark:=aor (bS aoq (i:=19) (j:=20) Z apf);have asl:=r8;have arl:=aos (bS aoq (i:=19) (j:=20) Z apf);have arm:=nm;have arn:=sc;refine BS (λ_ v7 _ aw1=>?_);have arj:=be v7 arj;have ask:=aa2 v7 ask;have ark:=ab v7 ark;have asl:=aa2 v7 asl;have arl:=ab v7 arl;have arm:=be v7 arm;have arn:=ab v7 arn;have cf:=xt cf v7;refine I ?_
 exact fs ⟨cm,mq,cr,awz.heap.size,cx,lr,lp,cf,U,w5,w7,w8,(λ_=>rfl),aol,aom,aon,(λx=>by have:=nq x;omega),(λ_=>⟨by omega,by omega⟩),(λx=>by have:=nv x;omega),(λx _=>by have:=nq x;omega),aoy,(λ_ x=>by have:=nv x;omega),arj,(λaw2=>(ab v7 (ao0 aw2))),(λas9 ata=>⟨(ab v7 ((ao1 as9 ata).1)),(ao1 as9 ata).2⟩),(λaw3 _=>ff (bS aoq (i:=19) (j:=20) Z apf) aw3),(λaw4=>ff (bS aoq (i:=20) (j:=25) Z (bS aoq (i:=19) (j:=20) Z apf)) aw4),ask,(λ_=>ark),(λaw5 _=>ff (bS aoq (i:=19) (j:=20) Z apf) aw5),(λaw6=>ff (bS aoq (i:=20) (j:=25) Z (bS aoq (i:=19) (j:=20) Z apf)) aw6),asl,(λ_=>arl),(λaw7 _=>ff (bS aoq (i:=19) (j:=20) Z apf) aw7),(λaw8=>ff (bS aoq (i:=20) (j:=25) Z (bS aoq (i:=19) (j:=20) Z apf)) aw8),arm,arn,(λatb atc=>⟨(ab v7 ((aot atb atc).1)),(aot atb atc).2⟩),(λatd ate=>⟨(ab v7 ((ao2 atd ate).1)),(ao2 atd ate).2⟩),(λaw9 _=>ff (bS aoq (i:=19) (j:=20) Z apf) aw9),(λaxa=>ff (bS aoq (i:=20) (j:=25) Z (bS aoq (i:=19) (j:=20) Z apf)) axa),(λaxb axc=>(ab v7 (ape axb axc))),(λ_ _=>aw1),(λaxd axe=>(ab v7 (aou axd axe)))⟩;refine gw (λ_ _ _ axf aqs apo apq=>?_) ?_
 obtain⟨cm,mq,cr,ly,cx,lr,lp,cf,zst,w5,w7,w8,w9,aol,aom,aon,nq,ns,nv,aox,aoy,aoz,np,ao0,ao1,apa,apv,p6,aor,apb,apw,r8,aos,apc,apx,nm,sc,aot,ao2,apd,apy,ape,ao3,aou⟩:=axf;have axg:=w9 (apq 19 Z);have a5q:=bz cf;have asi:=nq (aqs 10 9 Z (apq 10 Z));have atf:=ns (apq 19 Z);have aqt:=np;obtain⟨aro,axh,axi,axj,atg,axk,axl,axm,axn⟩:=ao1 (apq 10 Z) apo;have arp:=p6;have arq:=aor apo;have arr:=r8;have ath:=aos apo;have aqu:=nm;have a5s:=bt aqu;have ars:=sc;obtain⟨art,axo,ati,axp⟩:=ao2 (apq 10 Z) apo;have axq:=ao3 (apq 19 Z) apo;refine AP ath (aa8 axq) (λasm _ axr ao6 ap0=>?_);have axs:=aQ ap0 asu (bt aqt);have axt:=aQ ap0 asv (bt aqu);have axu:∀jx,jx<i9x->az asm (H2 jx):=λjx hi=>aa9 ap0 (hapy1 jx hi) (Wr.own arp jx hi);have axv:∀jx,jx<i9x->az asm (H3 jx):=λjx hi=>aa9 ap0 (hapy3 jx hi) (Wr.own arr jx hi);have aqt:=aa3 ao6 (λe=>asu e.symm) aqt;have axw:=aa9 ap0 (aa6 atg) aro;have aro:=ab3 (aa6 atg) ao6 aro;have arp:=ac8 ao6 hapy1 arp;have axx:=aa9 ap0 (aa6 asy) arq;have arq:=ab3 (aa6 asy) ao6 arq;have arr:=ac8 ao6 hapy3 arr;have aqu:=aa3 ao6 (λe=>asv e.symm) aqu;have axy:=aa9 ap0 aq2 ars;have ars:=ab3 aq2 ao6 ars
 have axz:=aa9 ap0 (aa6 ati) art;have art:=ab3 (aa6 ati) ao6 art;have cf:=bm ath U U cf ao6;have a5u:=ao6.size;refine I ?_;exact fs ⟨cm,mq,cr,ly,asm,lr,lp,cf,U,w5,w7,w8,w9,(λ_=>rfl),aom,aon,(λx=>by have:=nq x;omega),(λx=>by have:=ns x;omega),(λx=>by have:=nv x;omega),aox,aoy,aoz,aqt,(λax0=>tf (apq 10 Z) ax0),(λ_ ax1=>tf Z ax1),(λ_ _=>⟨aro,axh,axi,axj,axk,axl,axm,axn⟩),(λax2=>ff (bS aqs (i:=20) (j:=25) Z apo) ax2),arp,(λax3=>tf Z ax3),(λ_ _=>⟨arq,auh,aui,ar7,hap31,hap33⟩),(λax4=>ff (bS aqs (i:=20) (j:=25) Z apo) ax4),arr,(λax5=>tf Z ax5),(λ_ _=>⟨axr,axs,axt,axw,axx,axy,axz,axu,axv⟩),(λax6=>ff (bS aqs (i:=20) (j:=25) Z apo) ax6),aqu,ars,(λ_ ax7=>tf (apq 10 Z) ax7),(λ_ ax8=>tf Z ax8),(λ_ _=>⟨art,axo,axp⟩),(λax9=>ff (bS aqs (i:=20) (j:=25) Z apo) ax9),(λ_ aya=>tf (apq 10 Z) aya),(λ_ ayb=>tf Z ayb),(λatj ayc=>(nI ao6 (λg e e2=>by cases e;have:lr<_:=as3 _ e2.symm;have:=nv atj;omega) (aou atj ayc)))⟩;refine sf ?_;refine db (λa57 a58 a59 _ ayd a6a _=>by obtain⟨_,_,_,_,_,_,_,_,_,_,_,_,_,_,_,_,_,_,_,_,_,_,_,_,_,_,_,_,_,_,_,_,_,_,_,nm,_⟩:=ayd;refine I ?_;exact aH) ?_
 refine db (λa6b a6c a6d _ a6e a6f _=>by refine aa (aW (v:=vrow) as0 ?_);refine I ?_;exact aH) ?_;refine gw (λ_ aye _ ayf aru arv _=>?_) ?_;obtain⟨cm,mq,cr,ly,cx,lr,lp,cf,zst,w5,w7,w8,w9,aol,aom,aon,nq,ns,nv,aox,aoy,aoz,np,ao0,ao1,apa,apv,p6,aor,apb,apw,r8,aos,apc,apx,nm,sc,aot,ao2,apd,apy,ape,ao3,aou⟩:=ayf;have arw:=np;have asn:=p6;have aso:=r8;have arx:=nm;have aqv:=sc;refine aa (cH (vs:=[(0,vrow)]) (cells:=#[vrow]) R7 jB Z dc dc (jO _ (bQ aqv)) Z dc (λ_ ny _ ayg=>?_));have arw:=be ny arw;have asn:=aa2 ny asn;have aso:=aa2 ny aso;have arx:=be ny arx;have aqv:=ab ny aqv;have cf:=xt cf ny;refine I ?_
 exact fs ⟨cm,mq,cr,ly,cx,aye.heap.size,lp,cf,U,w5,w7,w8,w9,aol,(λ_=>rfl),aon,(λx=>by have:=nq x;omega),(λx=>by have:=ns x;omega),(λ_=>⟨by omega,by omega⟩),aox,(λx _=>by have:=nq x;omega),(λx _=>by have:=ns x;omega),arw,(λayh=>(ab ny (ao0 ayh))),(λatk atl=>⟨(ab ny ((ao1 atk atl).1)),(ao1 atk atl).2⟩),(λatm atn=>⟨(ab ny ((apa atm atn).1)),(apa atm atn).2⟩),(λayi=>ff (bS aru (i:=24) (j:=25) Z arv) ayi),asn,(λayj=>(ab ny (aor ayj))),(λato atp=>⟨(ab ny ((apb ato atp).1)),(apb ato atp).2⟩),(λayk=>ff (bS aru (i:=24) (j:=25) Z arv) ayk),aso,(λayl=>(ab ny (aos ayl))),(λatq atr=>⟨(ab ny ((apc atq atr).1)),(apc atq atr).2⟩),(λaym=>ff (bS aru (i:=24) (j:=25) Z arv) aym),arx,aqv,(λatt atu=>⟨(ab ny ((aot att atu).1)),(aot att atu).2⟩),(λatv atw=>⟨(ab ny ((ao2 atv atw).1)),(ao2 atv atw).2⟩),(λatx aty=>⟨(ab ny ((apd atx aty).1)),(apd atx aty).2⟩),(λayn=>ff (bS aru (i:=24) (j:=25) Z arv) ayn),(λayo ayp=>(ab ny (ape ayo ayp))),(λayq ayr=>(ab ny (ao3 ayq ayr))),(λ_ _=>ayg)⟩;refine gw (λ_ _ _ ays aqf aqw oq=>?_) ?_
 obtain⟨cm,mq,cr,ly,cx,lr,lp,cf,zst,w5,w7,w8,w9,aol,aom,aon,nq,ns,nv,aox,aoy,aoz,np,ao0,ao1,apa,apv,p6,aor,apb,apw,r8,aos,apc,apx,nm,sc,aot,ao2,apd,apy,ape,ao3,aou⟩:=ays;have ayt:=aom (oq 24 Z);have a6t:=bz cf;have asi:=nq (aqf 10 9 Z (aqf 20 10 Z (oq 20 Z)));have atf:=ns (aqf 20 19 Z (oq 20 Z));have ayu:=nv (oq 24 Z);have aqx:=np;obtain⟨ary,ayv,ayw,atz,ayx,ayy,ayz,ay0⟩:=apa (oq 20 Z) aqw;have arz:=p6;obtain⟨at0,at1,at2,at3,at4,at6⟩:=apb (oq 20 Z) aqw;have ar0:=r8;obtain⟨ar1,ay1,ay2,ay3,at7,ay4,ay5,ay6,ay7⟩:=apc (oq 20 Z) aqw;have aqy:=nm;have a6v:=bt aqy;have aqz:=sc;obtain⟨ar2,at8,ay8⟩:=apd (oq 20 Z) aqw;have ay9:=aou (oq 24 Z) aqw;refine AP at0 (aa8 ay9) (λasp _ aza apg ap1=>?_) (h1:=Ty (bQ aqz));have azb:=aQ ap1 at1 (bt aqx);have azc:=aQ ap1 at2 (bt aqy);have azd:∀jx,jx<i9x->az asp (H2 jx):=λjx hi=>aa9 ap1 (at4 jx hi) (Wr.own arz jx hi);have aze:∀jx,jx<i9x->az asp (H3 jx):=λjx hi=>aa9 ap1 (at6 jx hi) (Wr.own ar0 jx hi);have aqx:=aa3 apg (λe=>at1 e.symm) aqx;have azf:=aa9 ap1 (aa6 atz) ary;have ary:=ab3 (aa6 atz) apg ary;have arz:=ac8 apg at4 arz;have ar0:=ac8 apg at6 ar0;have azg:=aa9 ap1 (aa6 at7) ar1
 have ar1:=ab3 (aa6 at7) apg ar1;have aqy:=aa3 apg (λe=>at2 e.symm) aqy;have azh:=aa9 ap1 at3 aqz;have aqz:=ab3 at3 apg aqz;have azi:=aa9 ap1 (aa6 at8) ar2;have ar2:=ab3 (aa6 at8) apg ar2;have cf:=bm at0 U U cf apg;have a6x:=apg.size;refine I ?_;exact fs ⟨cm,mq,cr,ly,cx,lr,asp,cf,U,w5,w7,w8,w9,aol,aom,(λ_=>rfl),(λx=>by have:=nq x;omega),(λx=>by have:=ns x;omega),(λx=>by have:=nv x;omega),aox,aoy,aoz,aqx,(λazj=>tf (aqf 20 10 Z (oq 20 Z)) azj),(λ_ azk=>tf (oq 20 Z) azk),(λ_ azl=>tf Z azl),(λ_=>⟨ary,ayv,ayw,ayx,ayy,ayz,ay0⟩),arz,(λazm=>tf (oq 20 Z) azm),(λ_ azn=>tf Z azn),(λ_=>⟨aza,azb,azc,azf,azg,azh,azi,azd,aze⟩),ar0,(λazo=>tf (oq 20 Z) azo),(λ_ azp=>tf Z azp),(λ_=>⟨ar1,ay1,ay2,ay3,ay4,ay5,ay6,ay7⟩),aqy,aqz,(λ_ azq=>tf (aqf 20 10 Z (oq 20 Z)) azq),(λ_ azr=>tf (oq 20 Z) azr),(λ_ azs=>tf Z azs),(λ_=>⟨ar2,ay8⟩),(λ_ azt=>tf (aqf 20 10 Z (oq 20 Z)) azt),(λ_ azu=>tf (oq 20 Z) azu),(λ_ azv=>tf Z azv)⟩;refine sf ?_;rintro asq _ _ aph ⟨cm,mq,cr,ly,cx,lr,lp,cf,zst,w5,w7,w8,w9,aol,aom,aon,nq,ns,nv,aox,aoy,aoz,np,ao0,ao1,apa,apv,p6,aor,apb,apw,r8,aos,apc,apx,nm,sc,aot,ao2,apd,apy,ape,ao3,aou⟩;have asi:=nq (aph 9 Z)
 have atf:=ns (aph 19 Z);have ayu:=nv (aph 24 Z);have ap2:=np;obtain⟨ap3,azw,ar3,azx,azy,azz,az0⟩:=apv (aph 25 Z);have ap4:=p6;obtain⟨ap5,az1,ar4,az2,az3,az4,az5,az6,az7⟩:=apw (aph 25 Z);have ap6:=r8;obtain⟨ap7,az8,ar5,az9,a0a,a0b,a0c,a0d⟩:=apx (aph 25 Z);have at9:=nm;have a7h:=bt at9;have ap8:=sc;obtain⟨ao7,_⟩:=apy (aph 25 Z);have a0e:asq 78=cr:=(w8 (aph 10 Z));refine aa (cC (b:=cy.heap.size) (o:=0) (v:=cr) y0 Z a0e (bQ ap3) at9 (qa3 Z) (λ_ api a0f=>?_));have ap2:=pb api ap2;have ap3:=ax api ar3 ap3;have ap4:=ab8 api U ap4;have ap5:=ax api ar4 ap5;have ap6:=ab8 api U ap6;have ap7:=ax api ar5 ap7;have ap8:=ax api aql ap8;have ao7:=ax api (λe=>by have:=aU ao7 _ e;omega) ao7;have cf:=bi api cf;have a7k:=iM api;refine I ?_;have a0g:asq 88=cx:=(aol (aph 20 Z));refine aa (cC (b:=cy.heap.size) (o:=1) (v:=cx) lU Z a0g (bQ ap7) a0f (qa3 Z) (λ_ apj a0h=>?_));have ap2:=pb apj ap2;have ap3:=ax apj ar3 ap3;have ap4:=ab8 apj U ap4;have ap5:=ax apj ar4 ap5;have ap6:=ab8 apj U ap6;have ap7:=ax apj ar5 ap7;have ap8:=ax apj aql ap8;have ao7:=ax apj (λe=>by have:=aU ao7 _ e;omega) ao7;have cf:=bi apj cf
 have a7m:=iM apj;refine I ?_;have a0i:asq 93=lp:=(aon (aph 25 Z));refine aa (cC (b:=cy.heap.size) (o:=2) (v:=lp) y0 Z a0i (bQ ap5) a0h (qa3 Z) (λaua apk a0j=>?_));have ap2:=pb apk ap2;have ap3:=ax apk ar3 ap3;have ap4:=ab8 apk U ap4;have ap5:=ax apk ar4 ap5;have ap6:=ab8 apk U ap6;have ap7:=ax apk ar5 ap7;have ap8:=ax apk aql ap8;have ao7:=ax apk (λe=>by have:=aU ao7 _ e;omega) ao7;have cf:=bi apk cf;have a7n:=iM apk;refine I ?_;refine gP (I ?_);have hkm:=pe.km i9x hlo;have hce:ac=KC i9x:=Fp (by rw[pe.cl i9x hlo];omega) (λk hk=>by rw[pe.ce i9x hlo k U];exact hacf k U);have a0k:World.ownsRow aua wr.heap.size 33 2 cm (KM i9x).length (ag (KM i9x)):=by rw[hkm];exact ao7
 have a0l:=ck (lo':=cv.heap.size) U a0k;have a0m:∀j,j<i9x->az cm (H2 j):=Wr.far ap4 ao7 U;have a0n:World.ownsRow aua aqe.heap.size 33 2 vrow (KC i9x).length (ag (KC i9x)):=by rw[<-hce];exact ap8
 have a0o:=ck (lo':=cv.heap.size) U a0n;have a0p:∀j,j<i9x->az vrow (H3 j):=Wr.far ap6 ap8 U;refine I ?_;exact bI ⟨i9x+1,bT H2 i9x cm,cr,bT H3 i9x vrow,lp,acY++[ar ys (rl.getD i9x 0)],cx,rfl,rfl,U,(λj hj=>dW azz azy j hj),(λj hj=>dW az0 azx j hj),(λj hj=>dW az6 az5 j hj),(λj hj=>dW az7 az4 j hj),(λj hj=>dW a0c a0b j hj),(λj hj=>dW a0d a0a j hj),q4,(sQ (f:=λj=>ar ys (rl.getD j 0)) halY hacY),U,azw,ar3,az1,ar4,az8,ar5,(aa6 az2),(aa6 az9),az3,cf,ap2,(aM ap3 Z (eL H2 i9x cm).symm),(by have h:=Wr.push ap4 a0l a0m;rwa [kP]at h),(aM ap5 Z (eL H3 i9x vrow).symm),(by have h:=Wr.push ap6 a0o a0p;rwa [kP]at h),(aM ap7 Wf (dl _ (ar ys (rl.getD i9x 0)))),a0j⟩;have hi9:i9x=KY.length:=J
 subst hi9;have hye:acY=KY:=Fp U (λk hk=>by rw[hacY k U,pe.ye k U]);subst hye;have aqd:ap wr cy.heap.size 30 #[.slice (sA vm) acY.length (sC vm),.slice (sA vy) acY.length (sC vy),.slice (sA vc) acY.length (sC vc)]:=by rw[<-dj hout,<-dj hout3,<-dj hyrow];exact fx
 have hmm:=Wr.mt hwr (gi hout);have hmc:=Wr.mt hwr3 (gi hout3);have hmy:=gi hyrow;have hmk:=m0 hout3;have ap9:=ab2 hmm;have aqa:=ab2 hmc;have aqb:=ab6 hmy;refine I ?_;(try refine aa (aP (cs:=[.slice (sA vm) acY.length (sC vm),.slice (sA vy) acY.length (sC vy),.slice (sA vc) acY.length (sC vc)]) (b:=cy.heap.size) (o:=0) da Z bj Z (aa0 aqd (i:=0) Z) ?_));refine cl lc (iH (ap9).mt (dM okq.hv) (aqb).rw (aqa).mt (dM okq.hv3) hmk okq.hv okq.hv3 okq.hVl okq.hLl okq.hyo okq.hp (ht.ext lq)) ?_;rintro _ _ aqg rfl;have⟨cw,aqd⟩:=dZ aqg.2 cw aqd;have ap9:=aa1 aqg.2 ap9;have aqa:=aa1 aqg.2 aqa;have aqb:=aa5 aqg.2 aqb;have lq:=xt lq aqg.2;refine cl fE dh ?_;rintro _ _ aqh rfl;have⟨cw,aqd⟩:=dZ aqh.2 cw aqd;have ap9:=aa1 aqh.2 ap9;have aqa:=aa1 aqh.2 aqa;have aqb:=aa5 aqh.2 aqb;have lq:=xt lq aqh.2;refine I ?_;(try refine aa (aP (cs:=[.slice (sA vm) acY.length (sC vm),.slice (sA vy) acY.length (sC vy),.slice (sA vc) acY.length (sC vc)]) (b:=cy.heap.size) (o:=0) da Z bj Z (aa0 aqd (i:=0) Z) ?_))
 refine aa (bF (b:=cy.heap.size) (o:=0) (vs:=[.slice (sA vm) acY.length (sC vm),.slice (sA vy) acY.length (sC vy),.slice (sA vc) acY.length (sC vc)]) bj Z Z KK aqd (qa3 Z) (λ_ aqi a0q=>?_));have cw:=pb aqi cw;have ap9:=ac1 aqi U ap9;have aqa:=ac1 aqi U aqa;have aqb:=ab9 aqi U aqb;have lq:=bi aqi lq;refine I ?_;refine aX (v:=.agg #[.slice (sA vm) acY.length (sC vm),.slice (sA vy) acY.length (sC vy),.slice (sA vc) acY.length (sC vc)]) (bY  rfl ?_) lq ⟨_,_,_,_,_,_,rfl,⟨⟨_,((ap9).mt).mono U⟩,((aqb).rw).mono U,⟨_,((aqa).mt).mono U⟩,hmk⟩⟩;refine ak (t:=4) (cs:=[.slice (sA vm) acY.length (sC vm),.slice (sA vy) acY.length (sC vy),.slice (sA vc) acY.length (sC vc)]) (b:=cy.heap.size) (o:=0) da Z bj ?_ ?_;exact Z;exact aa0 a0q (i:=0) Z
def LU {lb:List Value}{KM KC:Rows}{KY:List R}(hg:Enters prog gf)(hc:∀W,aO w W->CL gf lb.toArray W (aG W λv w'=>∃A C Y CY B CB,v=.agg #[.slice A KY.length C,.slice Y KY.length CY,.slice B KY.length CB]/\gl W.heap.size w' A C Y CY B CB KM KC KY)):
 CL 51 #[.func (.func gf) #[] lb.toArray] w (aG w λv w'=>∃u,v=.tuple #[u,.int .i64 0]/\∃A C Y CY B CB,u=.agg #[.slice A KY.length C,.slice Y KY.length CY,.slice B KY.length CB]/\gl w.heap.size w' A C Y CY B CB KM KC KY):=by
 refine lQ func51 Z (I ?_);refine al ee (λA0 Av H=>?_);have E:=Av.2;refine al lO (λ_ nm G=>?_);have⟨H,E⟩:=bn nm.2 H E;refine I ?_;refine aa (aD (vf:=[]) (vc:=[pT w.heap.size,pT A0.heap.size]) Z Z ?_);refine aa (i8 (lb:=[pT w.heap.size,pT A0.heap.size]) Z ?_);refine I ?_;refine aa (lW (f:=gf) (lb:=lb) (vs:=[]) hg Z Z (hc _ E) ?_);rintro _ _ Aw ⟨Af,Am,Ar,A2,A1,Ao,rfl,O⟩;have⟨H,G,E⟩:=cj Aw.2 H G E;refine aa (bF (b:=w.heap.size) (o:=0) (vs:=[.slice Af KY.length Am,.slice Ar KY.length A2,.slice A1 KY.length Ao]) bj Z Z KK H (qa3 Z) (λ_ Ab Aq=>?_));have G:=pb Ab G;have O:=gl.put Ab U O;have E:=bi Ab E;refine SO G (λ_ Ap As=>?_);have Aq:=pb Ap Aq;have O:=gl.put Ap U O;have E:=bi Ap E;refine I ?_;refine og (b1:=w.heap.size) (b2:=A0.heap.size) (v:=.tuple #[.agg #[.slice Af KY.length Am,.slice Ar KY.length A2,.slice A1 KY.length Ao],.int .i64 0]) SZ (λ_ _=>Ke) E (cO (r1:=.cell 2 30) (r2:=.cell 3 36) Z ?_ ?_) ⟨_,rfl,_,_,_,_,_,_,rfl,gl.mono U O⟩;refine ak (t:=2) (cs:=[.slice Af KY.length Am,.slice Ar KY.length A2,.slice A1 KY.length Ao]) (b:=w.heap.size) (o:=0) da Z bj ?_ ?_;exact Z
 exact aa0 Aq (i:=0) Z;refine bC (t:=3) (b:=A0.heap.size) (o:=0) y5 Z ?_ ?_;exact Z;exact ab4 As Z
def LV {L V:Rows}{ys:List R}(hD:ey w A C Y CY B CB L V ys)(ok:eT L V ys)(hb:ap w b 30 #[.slice A ys.length C,.slice Y ys.length CY,.slice B ys.length CB]){KM KC:Rows}{KY:List R}(hb2:ap w b2 22 #[.slice kd rl.length CR])(hR:Rw w lo5 kd (ints rl))(pe:pY L V ys rl KM KC KY)(okq:eT KM KC KY)(ht:Tb w):
 CL 52 #[pT b,pT b2] w (aG w λv w'=>∃A C Y CY B CB,v=.agg #[.slice A KY.length C,.slice Y KY.length CY,.slice B KY.length CB]/\gl w.heap.size w' A C Y CY B CB KM KC KY):=by
 obtain⟨_,H,hM⟩:=hD.m;obtain⟨_,hy⟩:=hD.y;obtain⟨_,G,hV⟩:=hD.v;have Ay:=bt hb;have Ax:=bt hb2;refine aC func52 Z (I ?_);refine al ee (λ_ Aq O=>?_);have⟨hb,hb2⟩:=dZ Aq.2 hb hb2;have E:=Aq.2;refine I ?_;(try refine aa (aP (cs:=[.slice A ys.length C,.slice Y ys.length CY,.slice B ys.length CB]) (b:=b) (o:=0) da Z bj Z (aa0 hb (i:=0) Z) ?_));refine cl lc (iH (hM.ext E) (dM ok.hv) (hy.ext E) (hV.ext E) (dM ok.hv3) hD.c ok.hv ok.hv3 ok.hVl ok.hLl ok.hyo ok.hp (ht.ext E)) ?_;rintro _ _ Ar rfl;have⟨hb,hb2,O,E⟩:=fo Ar.2 hb hb2 O E;refine cl fE dh ?_;rintro _ _ As rfl;have⟨hb,hb2,O,E⟩:=fo As.2 hb hb2 O E;refine I ?_;(try refine aa (aP (cs:=[.slice A ys.length C,.slice Y ys.length CY,.slice B ys.length CB]) (b:=b) (o:=0) da Z bj Z (aa0 hb (i:=0) Z) ?_));refine aa (bU (vs:=[(0,.agg #[.slice A ys.length C,.slice Y ys.length CY,.slice B ys.length CB])]) (cells:=#[.slice A ys.length C,.slice Y ys.length CY,.slice B ys.length CB]) (pl:=[(0,3)]) nw oQ q0 Z q0 ?_);refine I ?_;refine cl SN (LS (hD.ext E) ok (hR.ext E) pe okq (ht.ext E)) ?_;rintro _ _ Av ⟨Ap,Af,Am,Ao,A1,A0,rfl,Ab⟩;have⟨hb,hb2,O,E⟩:=fo Av.2 hb hb2 O E
 refine aa (bF (b:=w.heap.size) (o:=0) (vs:=[.slice Ap KY.length Af,.slice Am KY.length Ao,.slice A1 KY.length A0]) bj Z Z KK O (qa3 Z) (λ_ A2 Aw=>?_));have⟨hb,hb2⟩:=jU A2 hb hb2;have Ab:=gl.put A2 U Ab;have E:=bi A2 E;refine I ?_;refine aX (v:=.agg #[.slice Ap KY.length Af,.slice Am KY.length Ao,.slice A1 KY.length A0]) (bY  rfl ?_) E ⟨_,_,_,_,_,_,rfl,gl.mono U Ab⟩;refine ak (t:=2) (cs:=[.slice Ap KY.length Af,.slice Am KY.length Ao,.slice A1 KY.length A0]) (b:=w.heap.size) (o:=0) da Z bj ?_ ?_;exact Z;exact aa0 Aw (i:=0) Z
def yK {L V:Rows}{ys:List R}(hD:ey w A C Y CY B CB L V ys)(ok:eT L V ys){KM KC:Rows}{KY:List R}(hR:Rw w lo5 kd (ints rl))(pe:pY L V ys rl KM KC KY)(okq:eT KM KC KY)(ht:Tb w):
 CL 22 #[.agg #[.slice A ys.length C,.slice Y ys.length CY,.slice B ys.length CB],.slice kd rl.length CR] w (aG w λv w'=>∃u,v=.tuple #[u,.int .i64 0]/\∃A C Y CY B CB,u=.agg #[.slice A KY.length C,.slice Y KY.length CY,.slice B KY.length CB]/\gl w.heap.size w' A C Y CY B CB KM KC KY):=by
 obtain⟨_,H,_⟩:=hD.m;obtain⟨_,_⟩:=hD.y;obtain⟨_,G,_⟩:=hD.v;refine aC func22 Z (I ?_);refine bx (λAs Av O=>?_);have E:=Av.2;refine bx (λnm Aw A0=>?_);have⟨O,E⟩:=bn Aw.2 O E;refine al ee (λ_ Ax Ab=>?_);have⟨O,A0,E⟩:=cj Ax.2 O A0 E;refine I ?_;refine aa (aD (vf:=[]) (vc:=[pT w.heap.size,pT As.heap.size]) Z Z ?_);refine cl SK (LU (gf:=52) (lb:=[pT w.heap.size,pT As.heap.size]) SL (λW q=>LV (hD.ext (xt E q)) ok (be q O) (be q A0) (hR.ext (xt E q)) pe okq (ht.ext (xt E q)))) ?_;rintro _ _ Az ⟨B1,rfl,A2,Ao,Ar,Af,Am,Aq,rfl,Ap⟩;have⟨O,A0,Ab,E⟩:=fo Az.2 O A0 Ab E;refine I ?_;refine aa (bF (b:=nm.heap.size) (o:=0) (vs:=[.slice A2 KY.length Ao,.slice Ar KY.length Af,.slice Am KY.length Aq]) bj Z Z KK Ab (qa3 Z) (λ_ A1 Ay=>?_));have⟨O,A0⟩:=jU A1 O A0;have Ap:=gl.put A1 U Ap;have E:=bi A1 E;refine I ?_;refine aX (v:=.tuple #[.agg #[.slice A2 KY.length Ao,.slice Ar KY.length Af,.slice Am KY.length Aq],.int .i64 0]) (cO (r1:=.cell 4 30) (r2:=.tmp 5) Z ?_ ?_) E ⟨_,rfl,_,_,_,_,_,_,rfl,gl.mono U Ap⟩
 refine ak (t:=4) (cs:=[.slice A2 KY.length Ao,.slice Ar KY.length Af,.slice Am KY.length Aq]) (b:=nm.heap.size) (o:=0) da Z bj ?_ ?_;exact Z;exact aa0 Ay (i:=0) Z;exact aL (t:=5) GS _
end
section
open Go Go.Eng Go.RowKit Tryz
structure jW (n:Nat)(k4:World->Prop):Prop where
 ext:∀{A B:World},aO A B->k4 A->k4 B
 put:∀{A B:World} {b:Nat},eE A B b->n<=b->k4 A->k4 B
structure jc (bs:List Nat)(W W':World):Prop where
 size:W.heap.size<=W'.heap.size
 blk:∀{b:Nat} {t:TypeId} {cs:Array Value},b∉bs->ap W b t cs->ap W' b t cs
def jc.trans {A B C:World}(h:jc bs A B)(k:jc bs B C):jc bs A C:=⟨qa8 h.size k.size,λE hb=>k.blk E (h.blk E hb)⟩
def jc.of {A B:World}(h:ez bs A B):jc bs A B:=⟨h.size,λE hb=>h.blk E hb⟩
def jc.putObj {A:World}{r r':Loop}(h:A.heap[b]?=some (.loop r)):jc bs A (A.putObj b (.loop r')):=
 ⟨by simp,fun{c t cs} _ hb=>(World.putObj_heap_other (λe=>by subst e;unfold ap at hb;rw[h]at hb;cases hb)).trans hb⟩
def di (W:World)(b:Nat)(o:Obj):eE W (W.putObj b o) b:=⟨rfl,rfl,rfl,by simp,λk hk=>World.putObj_heap_other hk⟩
def Rz (P:Program)(gf:Nat)(lb:List Value)(enc:Nat->List Value)(bs:List Nat)(Kq:World->Prop)(M:Nat)(w:World):Prop:=
 ∀ (l:Nat) (k6 Jx:Nat->World->Prop) (W:World),Below w.heap.size w W->(∀k,jW W.heap.size (k6 k))->(∀k,jW W.heap.size (Jx k))->(∀k W1,k6 k W1->k<M)->
  (∀k W1,k6 k W1->YieldAt Fence.wide 7 P l (enc k).toArray W1 λe W'=>(e=.returned (.bool true)/\k6 (k+1) W'/\jc bs W1 W'/\(Kq W1->Kq W'))\/(e=.returned (.bool false)/\Jx (k+1) W'))->
  k6 0 W->CallsIn Fence.wide 8 P gf (#[.func (.yield l) #[] #[]]++lb.toArray) W λe W'=>(∃v,e=.returned v)/\∃k,Jx k W'
def Zz (bs:List Nat)(Kq:World->Prop)(k4:Nat->World->Prop)(Ix:Code->Nat->World->Prop)(k:Nat)(W:World):Exit->Act->World->Prop
 | .normal,_,W'=>KeepsOthers W W'/\jc bs W W'/\(Kq W->Kq W')/\k4 k W'
 | .ret,_,W'=>KeepsOthers W W'/\Ix .ret k W'
 | .exit id,_,W'=>KeepsOthers W W'/\Ix (.exit id) k W'
 |_,_,_=>False
def vT (W:World)(b:Nat)(r:Loop):Prop:=W.heap[b+1]?=some (.loop r)/\W.heap[b]?=some (.deferred (some []))
def vT.put {r:Loop}(h:vT W b r)(r':Loop):vT (W.putObj (b+1) (.loop r')) b r':=
 ⟨World.putObj_heap_same (Array.getElem?_eq_some_iff.1 h.1).1,(World.putObj_heap_other J).trans h.2⟩
def vT.kept {r:Loop}(h:vT W b r)(k:KeepsOthers W W'):vT W' b r:=⟨k.same _ _ h.1 Z,k.same _ _ h.2 Z⟩
def vT.stab {r:Loop}(h:b+1<n):jW n λW=>vT W b r:=
 ⟨λk h=>⟨k.heap h.1,k.heap h.2⟩,λk hb h=>⟨(k.block _ J).trans h.1,(k.block _ J).trans h.2⟩⟩
def jW.and {k4 k6:World->Prop}(h:jW n k4)(k:jW n k6):jW n λW=>k4 W/\k6 W:=⟨λe x=>⟨h.ext e x.1,k.ext e x.2⟩,λe l x=>⟨h.put e l x.1,k.put e l x.2⟩⟩
def jW.ex {α:Type}{k4:α->World->Prop}(h:∀a,jW n (k4 a)):jW n λW=>∃a,k4 a W:=⟨λe ⟨a,x⟩=>⟨a,(h a).ext e x⟩,λe l ⟨a,x⟩=>⟨a,(h a).put e l x⟩⟩
def jW.mono {m:Nat}{k4:World->Prop}(h:jW n k4)(hl:n<=m):jW m k4:=⟨h.ext,λk hb=>h.put k (qa8 hl hb)⟩
def LW {e:Nat->Value}{Q:Exit->Act->World->Prop}{enc:Nat->List Value}{Kq:World->Prop}{lb:List Value}{g:Operand}{assign body:Code}(hg:ev N e g=.func (.func gf) #[] lb.toArray)(eg:Enters P gf)(hit:Rz P gf lb enc bs Kq M w)(hKq:jW w.heap.size Kq)(hps:∀i,(enc i).length=ps.length)(k4:Nat->World->Prop)(Ix:Code->Nat->World->Prop)(hI:∀k,jW w.heap.size (k4 k))(hIx:∀c k,jW w.heap.size (Ix c k))(hM:∀k W,k4 k W->k<M)(h0:k4 0 w)(A:(Nat->Value)->Nat->(Nat->Value)->World->Prop)(hA:∀k e' W b r r',w.heap.size<=b->W.heap[b]?=some (.loop r)->A e k e' W->A e k e' (W.putObj b (.loop r')))(hassign:∀l k W K,k4 k W->(∀e' W',aO W W'->A e k e' W'->K (act N e' []) W')->assign.wpIn (Fw (some l)) 7 P (Exit.then K (λ_ _ _=>False)) (act N (ki e ps (enc k)) []) W)(hbody:∀l k e' W,A e k e' W->body.wpIn (Fw (some l)) 7 P (Zz bs Kq k4 Ix (k+1) W) (act N e' []) W)(hstop:∀D c k W,w.heap.size<=D->Ix c k W->li W D->c.wpIn (Fw none) 9 P Q (act N e (⟨.collected D,#[]⟩::ds)) W):
 (Code.rangeFunc g ps.toArray assign body).wpIn (Fw none) 9 P Q (act N e ds) w:=by
 refine wpIn_rangeFunc (F:=Fence.wide) (n:=9) λfn A2=>?_
 obtain⟨R,hR⟩:∃R:LoopState->Option Code->Loop,R=λAm Ab=>{state:=Am,pending:=Ab,fn,tmps:=(act N e ds).tmps,params:=ps.toArray,assign,body,defers:=w.heap.size}:=⟨_,rfl⟩
 obtain⟨V,hV⟩:∃V,(w.alloc (.deferred (some []))).alloc (.loop (R .ready none))=V:=⟨_,rfl⟩
 have hB:vT V w.heap.size (R .ready none):=by
  refine⟨?_,?_⟩ <;>rw[<-hV]
  · have h:=World.alloc_heap_new (w.alloc (.deferred (some []))) (.loop (R .ready none));rwa [World.size_alloc]at h
  · exact(Below.heap_alloc _ _ _ Wf).trans (World.alloc_heap_new w _)
 have O:w.heap.size+1<V.heap.size:=by rw[<-hV];simp
 have A0:Below w.heap.size w V:=by rw[<-hV];exact((Below.refl _ w).alloc (qa0 _) _).alloc Wf _
 have hI0:k4 0 V:=(hI 0).ext A0 h0
 refine⟨w.heap.size+1,[⟨.collected w.heap.size,#[]⟩],V,⟨.fn (.func gf) lb.toArray,#[.func (.yield (w.heap.size+1)) #[] #[]]⟩,V,gf,#[.func (.yield (w.heap.size+1)) #[] #[]]++lb.toArray,V,?_,?_,?_,?_,λ_=>by omega,?_⟩
 · rw[<-hV,hR];exact run_enterLoop_outer _ _ _ _ _
 · have hg':(act N e ds).eval g=.func (.func gf) #[] lb.toArray:=by rw[cM];exact hg
   simp only[resolve,hg'];simp[go_sem]
 · intro Aq _;trivial
 · simp[invoke,go_sem];exact eg _ _
 refine(hit (w.heap.size+1) (λk W=>k4 k W/\vT W w.heap.size (R .ready none)) (λk W=>∃c,Ix c k W/\vT W w.heap.size (R .done (some c))) V A0
  (λk=>((hI k).mono J).and (vT.stab O)) (λk=>jW.ex λc=>((hIx c k).mono J).and (vT.stab O)) (λk W h=>hM k W h.1) ?_ ⟨hI0,hB⟩).mono ?_
 ·
  rintro k W ⟨hi,hk⟩
  have hy:=run_yield (P:=P) (args:=(enc k).toArray) hk.1 (by rw[hR];simpa using hps k)
  rw[hR]at hy
  refine⟨fn,_,assign,body,hy,roundIn_of_wpIn A2 ?_⟩
  have hfold:(⟨(ps.toArray.zip (enc k).toArray).foldl (λt (p,v)=>t.setIfInBounds p v) (act N e ds).tmps,[]⟩:Act)=act N (ki e ps (enc k)) []:=by
   have h:=oT N ps (enc k) e
   have h2:act N (ki e ps (enc k)) []=⟨(act N (ki e ps (enc k)) []).tmps,[]⟩:=rfl
   rw[h2,<-h]
   simp only[List.zip_toArray,List.foldl_toArray]
   rfl
  rw[hfold]
  refine hassign (w.heap.size+1) k W _ hi λe' W' hx Ap=>?_
  have hk:vT W' w.heap.size (R .ready none):=⟨hx.heap hk.1,hx.heap hk.2⟩
  refine⟨_,run_beginRound hk.1 (by rw[hR]),?_⟩
  have Af:=hk.put {R .ready none with state:=.busy}
  refine wpIn_mono (hbody (w.heap.size+1) k e' _ (hA k e' _ _ _ _ J hk.1 Ap)) ?_
  have A1:jc bs W W':=⟨hx.size,λ_ h=>h.ext hx⟩
  have H:∀(j:Option Code) (W3:World),KeepsOthers (W'.putObj (w.heap.size+1) (.loop {R .ready none with state:=.busy})) W3->
   vT W3 w.heap.size {R .ready none with state:=.busy}/\(Instr.endRound (w.heap.size+1) j).run P W3=.ok (.bool j.isNone) (W3.putObj (w.heap.size+1) (.loop (R (if j.isNone then .ready else .done) j))):=λj W3 h3=>by
   have h4:=Af.kept h3
   refine⟨h4,?_⟩
   have E:=run_endRound (P:=P) j h4.1
   rw[hR]at E ⊢
   exact E
  rintro x Ar W3 G
  cases x with
  | normal=>
    obtain⟨h1,Ao,h2,h3⟩:=G
    obtain⟨h4,E⟩:=H none W3 h1
    exact⟨_,_,E,.inl ⟨rfl,⟨(hI _).put (di _ _ _) J h3,h4.put _⟩,A1.trans (((jc.putObj hk.1).trans Ao).trans (jc.putObj h4.1)),λh=>hKq.put (di _ _ _) J (h2 (hKq.put (di _ _ _) J (hKq.ext hx h)))⟩⟩
  | ret=>
    obtain⟨h1,h3⟩:=G
    obtain⟨h4,E⟩:=H (some .ret) W3 h1
    exact⟨_,_,E,.inr ⟨rfl,.ret,(hIx _ _).put (di _ _ _) J h3,h4.put _⟩⟩
  | exit id=>
    obtain⟨h1,h3⟩:=G
    obtain⟨h4,E⟩:=H (some (.exit id)) W3 h1
    exact⟨_,_,E,.inr ⟨rfl,.exit id,(hIx _ _).put (di _ _ _) J h3,h4.put _⟩⟩
  |goto t=>exact G.elim
  |panic c=>exact G.elim
  |outgrown=>exact G.elim
 · rintro x W2 ⟨⟨v,rfl⟩,k,c,hi,hk⟩
   have h:=run_endLoop (P:=P) hk.1 (by rw[hR];simp)
   rw[hR]at h
   refine⟨some c,_,h,hstop _ c k _ (qa0 _) ((hIx c k).put (di _ _ _) J hi) (hk.put _).2⟩
structure mL (w w':World)(base:Nat)(el:TypeId)(v v':Value)(k:Nat)(xs:List Value)(x:Value):Prop where
 own:w'.ownsRow base el 1 v' (k+1) (xs++[x])
 how:(aO w w'/\v'.ownBlock=some w.heap.size)\/∃g cap,v=.slice (some ⟨g,0,none⟩) k cap/\v'=.slice (some ⟨g,0,none⟩) (k+1) cap/\eE w w' g
def LX {t ty el:TypeId}{z:Value}{v x:Value}(hu:P.underlying t=some (.slice el))(hi:gp P el z 1 bytes)(hz:z.cells.size=1)(hown:w.ownsRow base el 1 v k xs)(hr:Rw w lo (some ⟨b,0,none⟩) [x])(hx1:x.oneCell'=true)(hk:k<=1000)(hby:bytes<=1000)(hbase:base<=w.heap.size):
 ∃v' w',(Builtin.append_ #[t,t] ty #[v,.slice (some ⟨b,0,none⟩) 1 1]).run P w=.ok v' w'/\mL w w' base el v v' k xs x:=by
 obtain⟨i,H,A0,G,O⟩:=hi.parts
 have hl:[x].length=1*i.size:=by rw[G];rfl
 have hnews:∀j u,[x][j]? =some u->w.cell? ((⟨b,0,none⟩:Addr).add j)=some u:=λj u hu=>by
  obtain⟨_,_,hA,hc⟩:=hr.cells j u hu;cases hA;rw[Addr.add_mid];exact hc
 have h1:∀u∈[x],u.oneCell'=true:=λu h=>by rw[List.mem_singleton.1 h];exact hx1
 have A1:(k+1)*bytes<=140737488355328:=qa8 (qb9 (show k+1<=1001 by omega) hby) dc
 obtain⟨v',w',E,h2,_,_,_⟩:=run_append_own_at (P:=P) w base t ty el i z 1 bytes hu H A0 G O hz dc v k xs hown ⟨b,0,none⟩ 1 1 [x] Wf hnews h1 RC A1 hbase
 refine⟨v',w',E,h2,?_⟩
 rcases hown.2 with⟨rfl,rfl⟩|⟨g,cap,cur,rfl,hbg,hg,hnc,hcm,hcs,htake⟩
 · have e:=run_append_nil (P:=P) w t ty el i z hu H A0 ⟨b,0,none⟩ 1 1 [x] hl hnews dc dc (by rw[O];omega)
   rw[E]at e
   injection e with e1 e2
   subst e1 e2
   exact .inl ⟨(ac3 w).trans (ad9 _ _),rfl⟩
 · by_cases hroom:k+1<=cap
   · have e:=run_append_room (P:=P) w t ty el i hu H g k cap cur hg ⟨b,0,none⟩ 1 1 [x] hl hnews h1 hroom (by rw[G,hcs];simp;omega)
     rw[E]at e
     injection e with e1 e2
     subst e1 e2
     exact .inr ⟨g,cap,rfl,rfl,⟨rfl,rfl,rfl,by simp,λc hc=>setRow_other w g c _ hc⟩⟩
   · have e:=run_append_grow (P:=P) w t ty el i z hu H A0 ⟨g,0,none⟩ k cap xs (by rw[hown.1,G]) (hown.cells (g:=g) Z) ⟨b,0,none⟩ 1 1 [x] hl hnews U U (growslice_fits U (by rw[O];exact A1))
     rw[E]at e
     injection e with e1 e2
     subst e1 e2
     exact .inl ⟨(ac3 w).trans (ad9 _ _),rfl⟩
def bl (v:Value):List Nat:=match v.ownBlock with|some g=>[g]|none=>[]
section
variable {w1 W2:World}{n0 sz:Nat}{el:TypeId}{v v' x:Value}
def yL (h:w.ownsRow base el sz v k xs)(kp:jc bs w W)(hb:∀g,v.ownBlock=some g->g∉bs):W.ownsRow base el sz v k xs:=by
 obtain⟨h1,h2|⟨g,cap,E,rfl,H,G,r⟩⟩:=h
 · exact⟨h1,.inl h2⟩
 · exact⟨h1,.inr ⟨g,cap,E,rfl,H,kp.blk (hb g Z) G,r⟩⟩
def PF (h:W.ownsRow base el 1 (.slice (some ⟨g,0,none⟩) (k+1) cap) (k+1) (xs++[x]))(hl:xs.length=k):W.ownsRow base el 1 (.slice (some ⟨g,0,none⟩) k cap) k xs:=by
 obtain⟨h1,h2|⟨A2,Ab,E,e,A0,O,A1,H,G,htake⟩⟩:=h
 · exact absurd h2.1 Wf
 · injection e with e1 e2 e3
   injection e1 with e1
   injection e1 with e1
   subst e1 e3
   refine⟨by omega,.inr ⟨g,cap,E,rfl,A0,O,by omega,H,G,?_⟩⟩
   have h3:=qb2 (List.take (k*1)) htake
   rw[List.take_take,Nat.min_eq_left U,List.take_left' U]at h3
   exact h3
def yM (h:w.ownsRow base el sz v k xs)(hg:v.ownBlock=some g):base<=g/\g<w.heap.size:=by
 obtain⟨_,h2|⟨O,cap,H,rfl,G,E,_⟩⟩:=h
 · rw[h2.1]at hg;cases hg
 · cases hg;exact⟨G,(Array.getElem?_eq_some_iff.1 E).1⟩
def u9 :g∈bl v↔v.ownBlock=some g:=by
 unfold bl
 cases h:v.ownBlock with
 |none=>simp
 |some a=>simp[eq_comm]
def jc.ofE (k:aO w W):jc bs w W:=⟨k.size,λ_ h=>ac9 k h⟩
def mL.kpc (h:mL w w1 base el v v' k xs x):jc (bl v) w w1:=by
 rcases h.how with⟨h1,_⟩|⟨g,cap,rfl,rfl,hp⟩
 · exact jc.ofE h1
 · exact⟨by rw[eE.size hp];exact qa0 _,λE hb=>ab0 hp (λe=>E (u9.2 (by rw[e];rfl))) hb⟩
def mL.inner (h:mL w w1 base el v v' k xs x)(kp:jc (bl v') w1 W):jc (bl v) w W:=by
 refine⟨qa8 h.kpc.size kp.size,fun{b t cs} hn hb=>kp.blk (λhm=>?_) (h.kpc.blk hn hb)⟩
 have h2:=u9.1 hm
 rcases h.how with⟨_,h3⟩|⟨g,cap,rfl,rfl,_⟩
 · rw[h3]at h2;cases h2;have:=ap.lt hb;omega
 · exact hn (u9.2 h2)
def mL.back (h:mL w w1 base el v v' k xs x)(hw:w.ownsRow base el 1 v k xs)(h2:W.ownsRow base el 1 v' (k+1) (xs++[x]))(kp:jc (bl v') w1 W):W.ownsRow base el 1 v k xs:=by
 rcases h.how with⟨h1,h3⟩|⟨g,cap,rfl,rfl,_⟩
 · refine yL (ab h1 hw) kp (λg E hm=>?_)
   have:=u9.1 hm
   rw[h3]at this
   have:=(yM hw E).2
   cases ‹some w.heap.size=some g›
   omega
 · exact PF h2 (by have:=hw.1;omega)
def mL.stab {k6:World->Prop}(h:mL w w1 base el v v' k xs x)(hw:w.ownsRow base el 1 v k xs)(hs:jW n0 k6)(hb:n0<=base)(hj:k6 w):k6 w1:=by
 rcases h.how with⟨h1,_⟩|⟨g,cap,rfl,rfl,hp⟩
 · exact hs.ext h1 hj
 · exact hs.put hp (qa8 hb (yM hw Z).1) hj
end
def RA (P:Program)(gf:Nat)(lb:List Value)(Pa:Nat->Value->World->Prop)(bs:List Nat)(M:Nat)(w:World):Prop:=
 ∀ (l:Nat) (k6 Jx:Nat->World->Prop) (W:World),Below w.heap.size w W->(∀k,jW W.heap.size (k6 k))->
  (∀k v W1,k<M->k6 k W1->Pa k v W1->YieldAt Fence.wide 7 P l #[v] W1 λe W'=>(e=.returned (.bool true)/\k6 (k+1) W'/\jc bs W1 W')\/(e=.returned (.bool false)/\Jx (k+1) W'))->
  k6 0 W->CallsIn Fence.wide 8 P gf (#[.func (.yield l) #[] #[]]++lb.toArray) W λe W'=>(∃v,e=.returned v)/\(k6 M W'\/∃k,Jx k W')
def ZA (bs:List Nat)(k4:Nat->World->Prop)(Ix:Code->Nat->World->Prop)(k:Nat)(W:World):Exit->Act->World->Prop
 | .normal,_,W'=>KeepsOthers W W'/\jc bs W W'/\k4 k W'
 | .ret,_,W'=>KeepsOthers W W'/\Ix .ret k W'
 | .exit id,_,W'=>KeepsOthers W W'/\Ix (.exit id) k W'
 |_,_,_=>False
def A6 {e:Nat->Value}{Q:Exit->Act->World->Prop}{Pa:Nat->Value->World->Prop}{lb:List Value}{g:Operand}{assign body:Code}(hg:ev N e g=.func (.func gf) #[] lb.toArray)(eg:Enters P gf)(hit:RA P gf lb Pa bs M w)(k4:Nat->World->Prop)(Ix:Code->Nat->World->Prop)(hI:∀k,jW w.heap.size (k4 k))(hIx:∀c k A b r r',w.heap.size<=b->A.heap[b]?=some (.loop r)->Ix c k A->Ix c k (A.putObj b (.loop r')))(h0:k4 0 w)(A:(Nat->Value)->Nat->(Nat->Value)->World->Prop)(hA:∀k e' W b r r',w.heap.size<=b->W.heap[b]?=some (.loop r)->A e k e' W->A e k e' (W.putObj b (.loop r')))(hassign:∀l k v W K,k<M->k4 k W->Pa k v W->(∀e' W',aO W W'->A e k e' W'->K (act N e' []) W')->assign.wpIn (Fw (some l)) 7 P (Exit.then K (λ_ _ _=>False)) (act N (upd e p v) []) W)(hbody:∀l k e' W,k<M->A e k e' W->body.wpIn (Fw (some l)) 7 P (ZA bs k4 Ix (k+1) W) (act N e' []) W)(hdone:∀D W,w.heap.size<=D->k4 M W->li W D->Q .normal (act N e (⟨.collected D,#[]⟩::ds)) W)(hstop:∀D c k W,w.heap.size<=D->Ix c k W->li W D->c.wpIn (Fw none) 9 P Q (act N e (⟨.collected D,#[]⟩::ds)) W):
 (Code.rangeFunc g #[p] assign body).wpIn (Fw none) 9 P Q (act N e ds) w:=by
 refine wpIn_rangeFunc (F:=Fence.wide) (n:=9) λfn A2=>?_
 obtain⟨R,hR⟩:∃R:LoopState->Option Code->Loop,R=λAm Ab=>{state:=Am,pending:=Ab,fn,tmps:=(act N e ds).tmps,params:=#[p],assign,body,defers:=w.heap.size}:=⟨_,rfl⟩
 obtain⟨V,hV⟩:∃V,(w.alloc (.deferred (some []))).alloc (.loop (R .ready none))=V:=⟨_,rfl⟩
 have hB:vT V w.heap.size (R .ready none):=by
  refine⟨?_,?_⟩ <;>rw[<-hV]
  · have h:=World.alloc_heap_new (w.alloc (.deferred (some []))) (.loop (R .ready none));rwa [World.size_alloc]at h
  · exact(Below.heap_alloc _ _ _ Wf).trans (World.alloc_heap_new w _)
 have A1:w.heap.size+1<V.heap.size:=by rw[<-hV];simp
 have O:Below w.heap.size w V:=by rw[<-hV];exact((Below.refl _ w).alloc (qa0 _) _).alloc Wf _
 have hI0:k4 0 V:=(hI 0).ext O h0
 refine⟨w.heap.size+1,[⟨.collected w.heap.size,#[]⟩],V,⟨.fn (.func gf) lb.toArray,#[.func (.yield (w.heap.size+1)) #[] #[]]⟩,V,gf,#[.func (.yield (w.heap.size+1)) #[] #[]]++lb.toArray,V,?_,?_,?_,?_,λ_=>by omega,?_⟩
 · rw[<-hV,hR];exact run_enterLoop_outer _ _ _ _ _
 · have hg':(act N e ds).eval g=.func (.func gf) #[] lb.toArray:=by rw[cM];exact hg
   simp only[resolve,hg'];simp[go_sem]
 · intro Ar _;trivial
 · simp[invoke,go_sem];exact eg _ _
 refine(hit (w.heap.size+1) (λk W=>k4 k W/\vT W w.heap.size (R .ready none)) (λk W=>∃c,Ix c k W/\vT W w.heap.size (R .done (some c))) V O
  (λk=>((hI k).mono U).and (vT.stab A1)) ?_ ⟨hI0,hB⟩).mono ?_
 ·
  rintro k v W hkM ⟨hi,hk⟩ Aq
  have hy:=run_yield (P:=P) (args:=#[v]) hk.1 (by rw[hR];simp)
  rw[hR]at hy
  refine⟨fn,_,assign,body,hy,roundIn_of_wpIn A2 ?_⟩
  have hfold:(⟨(#[p].zip #[v]).foldl (λt (p,v)=>t.setIfInBounds p v) (act N e ds).tmps,[]⟩:Act)=act N (upd e p v) []:=by
   have h:=oT N [p] [v] e
   have h2:act N (upd e p v) []=⟨(act N (ki e [p] [v]) []).tmps,[]⟩:=rfl
   rw[h2,<-h]
   simp only[List.zip_toArray,List.foldl_toArray]
   rfl
  rw[hfold]
  refine hassign (w.heap.size+1) k v W _ hkM hi Aq λe' W' hx Ap=>?_
  have hk:vT W' w.heap.size (R .ready none):=⟨hx.heap hk.1,hx.heap hk.2⟩
  refine⟨_,run_beginRound hk.1 (by rw[hR]),?_⟩
  have Af:=hk.put {R .ready none with state:=.busy}
  refine wpIn_mono (hbody (w.heap.size+1) k e' _ hkM (hA k e' _ _ _ _ U hk.1 Ap)) ?_
  have A0:jc bs W W':=⟨hx.size,λ_ h=>h.ext hx⟩
  have H:∀(j:Option Code) (W3:World),KeepsOthers (W'.putObj (w.heap.size+1) (.loop {R .ready none with state:=.busy})) W3->
   vT W3 w.heap.size {R .ready none with state:=.busy}/\(Instr.endRound (w.heap.size+1) j).run P W3=.ok (.bool j.isNone) (W3.putObj (w.heap.size+1) (.loop (R (if j.isNone then .ready else .done) j))):=λj W3 h3=>by
   have h4:=Af.kept h3
   refine⟨h4,?_⟩
   have E:=run_endRound (P:=P) j h4.1
   rw[hR]at E ⊢
   exact E
  rintro x As W3 G
  cases x with
  | normal=>
    obtain⟨h1,Ao,h3⟩:=G
    obtain⟨h4,E⟩:=H none W3 h1
    exact⟨_,_,E,.inl ⟨rfl,⟨(hI _).put (di _ _ _) U h3,h4.put _⟩,A0.trans (((jc.putObj hk.1).trans Ao).trans (jc.putObj h4.1))⟩⟩
  | ret=>
    obtain⟨h1,h3⟩:=G
    obtain⟨h4,E⟩:=H (some .ret) W3 h1
    exact⟨_,_,E,.inr ⟨rfl,.ret,hIx _ _ _ _ _ _ U h4.1 h3,h4.put _⟩⟩
  | exit id=>
    obtain⟨h1,h3⟩:=G
    obtain⟨h4,E⟩:=H (some (.exit id)) W3 h1
    exact⟨_,_,E,.inr ⟨rfl,.exit id,hIx _ _ _ _ _ _ U h4.1 h3,h4.put _⟩⟩
  |goto t=>exact G.elim
  |panic c=>exact G.elim
  |outgrown=>exact G.elim
 · rintro x W2 ⟨⟨v,rfl⟩,⟨hi,hk⟩|⟨k,c,hi,hk⟩⟩
   · have h:=run_endLoop (P:=P) hk.1 (by rw[hR];simp)
     rw[hR]at h
     exact⟨none,_,h,hdone _ _ (qa0 _) ((hI M).put (di _ _ _) U hi) (hk.put _).2⟩
   · have h:=run_endLoop (P:=P) hk.1 (by rw[hR];simp)
     rw[hR]at h
     exact⟨some c,_,h,hstop _ c k _ (qa0 _) (hIx c k _ _ _ _ U hk.1 hi) (hk.put _).2⟩
section
variable {r:Option Nat}{e:Nat->Value}{Q:Exit->Act->World->Prop}{K:Act->World->Prop}
variable {d ty:Nat}{pos:String}{af:Array Edge}{g:Option (Nat×Bool)}{v u:Value}{x y:Operand}{t el:TypeId}
def UV {z:Value}{k0:Nat}(hu:P.underlying t=some (.slice el))(hi:gp P el z 1 bytes)(hz:z.cells.size=1)(hx:ev N e x=v)(hown:w.ownsRow base el 1 v k0 xs)(hy:ev N e y=.slice (some ⟨b,0,none⟩) 1 1)(hr:Rw w lo (some ⟨b,0,none⟩) [u])(h1:u.oneCell'=true)(hk0:k0<=1000)(hby:bytes<=1000)(hbase:base<=w.heap.size)(hk:∀v' w',mL w w' base el v v' k0 xs u->K (act N (upd e d v') ds) w'):
 Oper.wpIn (Fw r) n P ⟨some d,.call {callee:=.builtin .append,args:=#[x,y],argTypes:=#[t,t]},ty,pos,af,g⟩ (act N e ds) w K Q:=by
 obtain⟨v',w',E,hA⟩:=LX (P:=P) (t:=t) (ty:=ty) hu hi hz hown hr h1 hk0 hby hbase
 refine cG (v:=v') (w':=w') Z ?_ (by rw[aw];exact hk v' w' hA)
 simp[execOp,resolve,invoke,builtin,hx,hy,E]
end
def FD (w0:World)(base:Nat)(el:TypeId)(v:Value)(k:Nat)(xs:List Value)(x:Value)(s ts a ta:Nat)(ls:Nat->Bool)(e:Nat->Value)(w:World):Prop:=
 (ls a=false->aO w0 w/\(ls s=true->∃b,e ts=.slice (some ⟨b,0,none⟩) 1 1/\Rw w 0 (some ⟨b,0,none⟩) [x]))/\
 (ls a=true->∃w1 w2,aO w0 w1/\mL w1 w2 base el v (e ta) k xs x/\aO w2 w)
section
variable {L:List (Option (Nat×Value))}{ls:Nat->Bool}{e:Nat->Value}{w0 w':World}{s ts a ta d:Nat}{el:TypeId}{v v' x u:Value}
def FD.start:FD w0 base el v k xs x s ts a ta (λ_=>false) e w0.drew:=⟨λ_=>⟨ac3 w0,λh=>by cases h⟩,λh=>by cases h⟩
def XX (hl:oA L i=some (some (d,u)))(hX:FD w0 base el v k xs x s ts a ta ls e w)(h1:Nat.beq a i=false:=by rfl)(h2:Nat.beq s i=false:=by rfl)(h3:Nat.beq ts d=false:=by rfl)(h4:Nat.beq ta d=false:=by rfl):
 vR N ds (FD w0 base el v k xs x s ts a ta) L ls e i (some d) .normal (act N (upd e d u) ds) w:=by
 refine⟨rfl,u,(aw ..).symm,(λ_ _ h=>by rw[hl]at h;cases h;rfl),λh=>?_,λh=>?_⟩
 · rw[fk h1]at h
   refine⟨(hX.1 h).1,λhs=>?_⟩
   rw[fk h2]at hs
   obtain⟨b,G,e2⟩:=(hX.1 h).2 hs
   exact⟨b,by show upd e d u ts=_;rw[jS h3];exact G,e2⟩
 · rw[fk h1]at h
   obtain⟨w1,E,p,q,r⟩:=hX.2 h
   exact⟨w1,E,p,by show mL w1 E base el v (upd e d u ta) k xs x;rw[jS h4];exact q,r⟩
def ZB (hl:oA L s=some none)(hX:FD w0 base el v k xs x s ts a ta ls e w)(kx:aO w w')(hr:Rw w' 0 (some ⟨b,0,none⟩) [x])(h1:Nat.beq a s=false:=by rfl)(h4:Nat.beq ta ts=false:=by rfl):
 vR N ds (FD w0 base el v k xs x s ts a ta) L ls e s (some ts) .normal (act N (upd e ts (.slice (some ⟨b,0,none⟩) 1 1)) ds) w':=by
 refine⟨rfl,_,(aw ..).symm,(λ_ _ h=>by rw[hl]at h;cases h),λh=>?_,λh=>?_⟩
 · rw[fk h1]at h
   exact⟨(hX.1 h).1.trans kx,λ_=>⟨b,by show upd e ts _ ts=_;rw[kh],hr⟩⟩
 · rw[fk h1]at h
   obtain⟨w1,E,p,q,r⟩:=hX.2 h
   exact⟨w1,E,p,by show mL w1 E base el v (upd e ts _ ta) k xs x;rw[jS h4];exact q,r.trans kx⟩
def ZC (hl:oA L a=some none)(hX:FD w0 base el v k xs x s ts a ta ls e w)(hn:ls a=false)(hA:mL w w' base el v v' k xs x):
 vR N ds (FD w0 base el v k xs x s ts a ta) L ls e a (some ta) .normal (act N (upd e ta v') ds) w':=by
 refine⟨rfl,_,(aw ..).symm,(λ_ _ h=>by rw[hl]at h;cases h),λh=>?_,λ_=>?_⟩
 · rw[Pz]at h;cases h
 · exact⟨w,w',(hX.1 hn).1,by show mL w w' base el v (upd e ta v' ta) k xs x;rw[kh];exact hA,aa4 _⟩
end
def jc.refl' (W:World):jc bs W W:=⟨qa0 _,λ_ h=>h⟩
def jc.ofExt (k:aO W W'):jc bs W W':=jc.ofE k
def HP (n:Nat):Nat->Nat->List Nat->List (List Nat)
 |0,_,_=>[]
 |f+1,i,l=>(if l.length+1=n then[l++[i]]else HP n f (i+1) (l++[i]))++HP n f (i+1) l
def yW (n m i:Nat)(l:List Nat):List (List Nat):=if l.length=n then[l]else HP n (m-i) i l
def LY {m:Nat}{l:List Nat}(h:i<m):HP n (m-i) i l=yW n m (i+1) (l++[i])++HP n (m-(i+1)) (i+1) l:=by
 rw[show m-i=(m-(i+1))+1 by omega]
 unfold yW
 rw[List.length_append,List.length_singleton]
 rfl
def PG {m:Nat}{l:List Nat}(h:¬i<m):HP n (m-i) i l=[]:=by rw[show m-i=0 by omega];rfl
def LZ (P:Program)(gf:Nat)(lb:List Value)(box:World->Prop)(base:Nat)(el:TypeId)(k6 Jx:Nat->World->Prop)(S:Nat->List Nat)(M n m first:Nat):Prop:=
 ∀ (A:Option Addr) (l:List Nat) (cp k:Nat) (W:World),l.length<=first->box W->W.ownsRow base el 1 (.slice A l.length cp) l.length (ints l)->base<=W.heap.size->k6 k W->k+(yW n m first l).length<=M->(∀j,j<(yW n m first l).length->S (k+j)=(yW n m first l).getD j [])->
  Calls P gf (([Value.slice A l.length cp,Value.int .i64 ((first:Nat):Int)]:List Value)++lb).toArray W (kj λv W'=>(v=.bool true/\k6 (k+(yW n m first l).length) W'/\W'.ownsRow base el 1 (.slice A l.length cp) l.length (ints l)/\jc (bl (.slice A l.length cp)) W W')\/(v=.bool false/\∃k,Jx k W'))
end
end Go.Proofs.YtlmihmlnpjkblaaGreatDoor
