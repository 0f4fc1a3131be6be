/- Part of the proof of a statement about risks. -/
import Derived.Test.YthpinljhfnodeaaGreatDoorRj8ToRnB
set_option linter.all false
namespace Go.Proofs.YthpinljhfnodeaaGreatDoor
open Go Go.Eng Go.RowKit Proofs.Tryz
variable {bo bq e1 e2 e0 e3:Bool}{a c d ra rb ka kb za e f H x qn:Int}{x1 x2 x3 x4 p1 p2 y1 y2 z1 z2 m1 m2 n1 n2 l1 l2 g1 g2 d1 d2 u1 u2 q1 q2 a1 a2 b1 b2 s1 s2 f1 f2 o1 o2 y3 y4 k1 k2 r1 r2 r3 r4 t1 t2 t3 t4 t5 t6 t8 t9 t10 t11 t13 t14 c1 c2:List UInt8}{cs l:List Value}{n m pl lo g k o i n0 bm bp bn bf:Nat}{p:Prop}{w W:World}
section
attribute [local irreducible] wpListIn Code.wpIn Oper.wpIn Exit.then Exit.inBlock Exit.noGoto
set_option maxHeartbeats 40000000
set_option maxRecDepth 100000 in
def v8 {xa xb ya yb n m:Int}{b:Bool}(hn:In64 n)(hm:In64 m)(h0:m≠0)(hC:∀W,Tb W->CL 42 #[IV xa xb ya yb,QV n m] W (aC W λv _=>v=.bool b))(ht:Tb w):
 CL 15 #[IV xa xb ya yb,.int .i64 n,.int .i64 m] w (aC w λv w'=>v=.bool b):=by
 refine aE func15 Z (I ?_);refine bx (λAb E9 Af=>?_);have Am:=E9.2;refine I ?_;refine kJ g8 4 [7,8,9,10] [some (7,IV xa xb ya yb),some (8,.int .i64 n),some (9,.int .i64 m),some (10,QV n m)] (XE Ab) (aa8 Ab) GS GS GS ?_ ?_;refine⟨λEP _ _ F2 _ qr _ _ _=>?_,?_⟩;obtain⟨EP,rfl⟩:=aT F2;have E7:=(be qr Af);refine ac (ar (cs:=[S (qR xa xb).1,S (qR xa xb).2,S (qR ya yb).1,S (qR ya yb).2]) (b:=w.heap.size) (o:=0) aJ Z ay Z (aa1 E7 (i:=0) Z) ?_);refine I ?_;exact dX Z qr (aa2 _);refine⟨λE4 _ _ EW _ Ap _ _ _=>?_,?_⟩;obtain⟨E4,rfl⟩:=aT EW;refine I ?_;exact dX Z Ap (aa2 _);refine⟨λEE _ _ ny _ od _ _ _=>?_,?_⟩;obtain⟨EE,rfl⟩:=aT ny;refine I ?_;exact dX Z od (aa2 _);refine⟨λAq _ _ Ar A2 Ad _ _ _=>?_,?_⟩;obtain⟨Aq,rfl⟩:=aT Ar;have Ay:=ba (A2 1 _ _ Z Z);have As:=ba (A2 2 _ _ Z Z);have E0:=xt Am Ad;refine cl ic (fS hn hm h0 (ht.ext E0)) ?_ (ai Ay (ai As Z));rintro _ _ Aw rfl;refine I ?_;exact dX Z Ad Aw.2;exact trivial;intro Av _ _ _ Ax Ao A1;obtain⟨Av,rfl⟩:=aT Ax;have F3:=(be A1 Af);have O:=xt Am A1;have Ek:=ba (Ao 0 _ _ Z Z);have E1:=ba (Ao 3 _ _ Z Z);refine cl Hm (hC _ (ht.ext O)) ?_ (ai Ek (ai E1 Z));rintro _ _ F1 rfl;have O:=xt O F1.2
 refine I ?_;exact ax (t:=6) (v:=.bool b) Z O Z Z
end
section
def Bf {b:Int}(h1:Q9 a b)(h2:Q9 c d):
 CL 47 #[QV a b,QV c d] w (aC w λv _=>v=.int .i64 (aG (a*d) (c*b))):=
 fM (KF h1.ok h2.ok (nR h1.2.1 h1.fz.1) (nT h1.2.1 h1.fz.2) (nR h2.2.1 h2.fz.1) (nT h2.2.1 h2.fz.2) (eY h1.2.1) (eY h2.2.1)) (qb1 (Value.int .i64) (Ev h1.2.1 h2.2.1))
end
section
set_option maxRecDepth 100000
attribute [local irreducible] wpListIn Code.wpIn Oper.wpIn Exit.then Exit.inBlock Exit.noGoto
set_option maxHeartbeats 40000000
def jt (h:p:=by kernel_rfl):p:=h
def kj:gK prog 27 (.agg #[S [],S [],S [],S [],S [],S [],S [],S [],S [],S [],S [],S [],S [],S []]) 14 224:=by unfold gK;kernel_rfl
def nH (ha:Q9 ra rb)(hb:Q9 ka kb)(hl:decide (aG (ra*kb) (ka*rb)<0)=bo):
 CL 21 #[.agg #[S (qR ra rb).1,S (qR ra rb).2],.agg #[S (qR ka kb).1,S (qR ka kb).2]] w (aC w λv w'=>v=.tuple #[.bool bo,.bool (decide (aG (ra*kb) (ka*rb)=0))]):=by
 refine aE func21 Z (I ?_);refine bx (λ_ A1 qr=>?_);have O:=A1.2;refine bx (λ_ Ab _=>?_);have⟨qr,O⟩:=bD Ab.2 qr O;refine I ?_;refine cl BH (Bf ha hb) ?_;rintro _ _ A2 rfl;have O:=xt O A2.2;refine I ?_;exact bN (t:=4) (u:=5) (v1:=.bool (decide ((aG (ra*kb) (ka*rb))<0))) (v2:=.bool (decide ((aG (ra*kb) (ka*rb))=0))) Z O (by rw[hl]) Z Z
def Gz {x0 x1 x2 x3 x4 x5 x6 p0 p1 p2 p3 p4 p5 p6 ha hb la lb ua ub sa sb zb:Int}(hx0:In64 x0)(hx1:In64 x1)(hx2:In64 x2)(hx3:In64 x3)(hx4:In64 x4)(hx5:In64 x5)(hx6:In64 x6)(ep0:bA x0 41=p0)(ep1:bA x1 20=p1)(ep2:bA x2 20=p2)(ep3:bA x3 41=p3)(ep4:bA x4 40=p4)(ep5:bA x5 9=p5)(ep6:bA x6 4=p6)(b0:0<=p0/\p0<41)(b1:0<=p1/\p1<20)(b2:0<=p2/\p2<20)(b3:0<=p3/\p3<41)(b4:0<=p4/\p4<40)(b5:0<=p5/\p5<9)(ql:Q9 (p3-30) 10)(qw:Q9 (1+p4) 10)(qg:Q9 (p5-4) 20)(qh:Q9 ha hb)(qla:Q9 la lb)(qua:Q9 ua ub)(qs:Q9 sa sb)(hH:qR ((p3-30)*10+(1+p4)*10) (10*10)=qR ha hb)(hL:qR ((p3-30)*20+(p5-4)*10) (10*20)=qR la lb)(hU:qR (ha*20-(p5-4)*hb) (hb*20)=qR ua ub)(hl:decide (aG (la*ub) (ua*lb)<0)=bo)(hT:bo=true->qR la lb=qR ra rb/\qR ua ub=qR sa sb)(hF:bo=false->qR (p3-30) 10=qR ra rb/\qR ha hb=qR sa sb)(hZ:p6=0->qR (sa*10+(1+p4)*sb) (sb*10)=qR za zb)(hN:¬p6=0->qR sa sb=qR za zb):
 CL 5 #[.agg #[.int .i64 x0,.int .i64 x1,.int .i64 x2,.int .i64 x3,.int .i64 x4,.int .i64 x5,.int .i64 x6]] w (aC w λv w'=>v=.agg #[S ((qR (p0-20) 10).1),S ((qR (p0-20) 10).2),S ((qR (1+p1) 10).1),S ((qR (1+p1) 10).2),S ((qR (1+p2) 20).1),S ((qR (1+p2) 20).2),S ((qR (p3-30) 10).1),S ((qR (p3-30) 10).2),S (qR ha hb).1,S (qR ha hb).2,S (qR ra rb).1,S (qR ra rb).2,S (qR za zb).1,S (qR za zb).2]):=by
 refine aE func5 Z (I ?_);refine bx (λAy F6 O=>?_);have A1:=F6.2;refine al kj (λAd T4 qr=>?_);have⟨O,A1⟩:=bD T4.2 O A1;refine I ?_;refine ac (aV (vs:=[]) (cells:=#[S [],S [],S [],S [],S [],S [],S [],S [],S [],S [],S [],S [],S [],S []]) (pl:=[(0,2),(2,2),(4,2),(6,2),(8,2),(10,2),(12,2)]) aP kj jt Z jt ?_);refine al kj (λ_ L2 G4=>?_);have⟨O,qr,A1⟩:=bC L2.2 O qr A1;refine ac (bg (b:=Ad.heap.size) (o:=0) (vs:=[S [],S [],S [],S [],S [],S [],S [],S [],S [],S [],S [],S [],S [],S []]) cD Z Z MT G4 (qa3 Z) (λ_ S1 Ar=>?_));have Ar:=ab8 Ar (cs:=#[S [],S [],S [],S [],S [],S [],S [],S [],S [],S [],S [],S [],S [],S []]) jt;have⟨O,qr,A1,_⟩:=mD S1 O qr A1;refine I ?_;refine ac (cM (m:=7) (b:=w.heap.size) (o:=0) (i:=0) (oo:=0) rI eP Z Z dc Z ?_);refine I ?_;refine clb ou (hc:=C8 (iM x0 41 _ hx0 U) ep0) (hk:=?_);rintro _ _ W2 rfl;have⟨O,qr,Ar,A1⟩:=bW W2.2 O qr Ar A1;refine vJ ?_;refine clb BG (hc:=C7 U U) (hk:=?_);rintro _ _ Z2 rfl;have⟨O,qr,Ar,A1⟩:=bW Z2.2 O qr Ar A1;refine I ?_
 refine ac (ak (b:=Ad.heap.size) (o:=0) (off:=0) (oo:=0) aP Z Z aM Z Z ?_);refine SA Ar (λ_ T2 Aq=>?_);have Aq:=ab8 Aq (cs:=#[S ((qR (p0-20) 10).1),S ((qR (p0-20) 10).2),S [],S [],S [],S [],S [],S [],S [],S [],S [],S [],S [],S []]) jt;have⟨O,qr,A1,_⟩:=mD T2 O qr A1;refine I ?_;refine ac (cM (m:=7) (b:=w.heap.size) (o:=0) (i:=1) (oo:=1) rI eP Z Z dc Z ?_);refine I ?_;refine clb ou (hc:=C8 (iM x1 20 _ hx1 U) ep1) (hk:=?_);rintro _ _ No rfl;have⟨O,qr,Aq,A1⟩:=bW No.2 O qr Aq A1;refine wl ?_;refine clb BG (hc:=C7 U U) (hk:=?_);rintro _ _ Ne rfl;have⟨O,qr,Aq,A1⟩:=bW Ne.2 O qr Aq A1;refine I ?_;refine ac (ak (b:=Ad.heap.size) (o:=0) (off:=2) (oo:=2) aP Z Z aM Z Z ?_);refine SA Aq (λ_ N1 Ap=>?_);have Ap:=ab8 Ap (cs:=#[S ((qR (p0-20) 10).1),S ((qR (p0-20) 10).2),S ((qR (1+p1) 10).1),S ((qR (1+p1) 10).2),S [],S [],S [],S [],S [],S [],S [],S [],S [],S []]) jt;have⟨O,qr,A1,_⟩:=mD N1 O qr A1;refine I ?_;refine ac (cM (m:=7) (b:=w.heap.size) (o:=0) (i:=2) (oo:=2) rI eP Z Z dc Z ?_);refine I ?_;refine clb ou (hc:=C8 (iM x2 20 _ hx2 U) ep2) (hk:=?_);rintro _ _ F4 rfl;have⟨O,qr,Ap,A1⟩:=bW F4.2 O qr Ap A1;refine wl ?_
 refine clb BG (hc:=C7 U U) (hk:=?_);rintro _ _ W3 rfl;have⟨O,qr,Ap,A1⟩:=bW W3.2 O qr Ap A1;refine I ?_;refine ac (ak (b:=Ad.heap.size) (o:=0) (off:=4) (oo:=4) aP Z Z aM Z Z ?_);refine SA Ap (λ_ Z7 As=>?_);have As:=ab8 As (cs:=#[S ((qR (p0-20) 10).1),S ((qR (p0-20) 10).2),S ((qR (1+p1) 10).1),S ((qR (1+p1) 10).2),S ((qR (1+p2) 20).1),S ((qR (1+p2) 20).2),S [],S [],S [],S [],S [],S [],S [],S []]) jt;have⟨O,qr,A1,_⟩:=mD Z7 O qr A1;refine I ?_;refine ac (cM (m:=7) (b:=w.heap.size) (o:=0) (i:=3) (oo:=3) rI eP Z Z dc Z ?_);refine I ?_;refine clb ou (hc:=C8 (iM x3 41 _ hx3 U) ep3) (hk:=?_);rintro _ _ T3 rfl;have⟨O,qr,As,A1⟩:=bW T3.2 O qr As A1;refine vJ ?_;refine clb BG (hc:=C7 U U) (hk:=?_);rintro _ _ W0 rfl;have⟨O,qr,As,A1⟩:=bW W0.2 O qr As A1;refine I ?_;refine ac (ak (b:=Ad.heap.size) (o:=0) (off:=6) (oo:=6) aP Z Z aM Z Z ?_);refine SA As (λ_ G3 Am=>?_);have Am:=ab8 Am (cs:=#[S ((qR (p0-20) 10).1),S ((qR (p0-20) 10).2),S ((qR (1+p1) 10).1),S ((qR (1+p1) 10).2),S ((qR (1+p2) 20).1),S ((qR (1+p2) 20).2),S ((qR (p3-30) 10).1),S ((qR (p3-30) 10).2),S [],S [],S [],S [],S [],S []]) jt;have⟨O,qr,A1,_⟩:=mD G3 O qr A1;refine I ?_
 refine ac (cM (m:=7) (b:=w.heap.size) (o:=0) (i:=4) (oo:=4) rI eP Z Z dc Z ?_);refine I ?_;refine clb ou (hc:=C8 (iM x4 40 _ hx4 U) ep4) (hk:=?_);rintro _ _ Wa rfl;have⟨O,qr,Am,A1⟩:=bW Wa.2 O qr Am A1;refine wl ?_;refine clb BG (hc:=C7 U U) (hk:=?_);rintro _ EW F5 rfl;have⟨O,qr,Am,A1⟩:=bW F5.2 O qr Am A1;refine I ?_;refine al aQ (λ_ Z3 F8=>?_);have⟨O,qr,Am,A1⟩:=bW Z3.2 O qr Am A1;refine SA F8 (λ_ Ix A2=>?_);have⟨O,qr,Am,A1,_⟩:=l7 Ix O qr Am A1;refine I ?_;refine ac (ak (b:=Ad.heap.size) (o:=0) (off:=6) (oo:=6) aP Z Z aM Z Z ?_);refine I ?_;refine cl lC (lv ql qw hH) ?_;rintro _ _ TT rfl;have⟨O,qr,Am,A2,A1⟩:=eE TT.2 O qr Am A2 A1;refine ac (ak (b:=Ad.heap.size) (o:=0) (off:=8) (oo:=8) aP Z Z aM Z Z ?_);refine SA Am (λ_ W1 Af=>?_);have Af:=ab8 Af (cs:=#[S ((qR (p0-20) 10).1),S ((qR (p0-20) 10).2),S ((qR (1+p1) 10).1),S ((qR (1+p1) 10).2),S ((qR (1+p2) 20).1),S ((qR (1+p2) 20).2),S ((qR (p3-30) 10).1),S ((qR (p3-30) 10).2),S (qR ha hb).1,S (qR ha hb).2,S [],S [],S [],S []]) jt;have⟨O,qr,A2,A1,_⟩:=l7 W1 O qr A2 A1;refine I ?_;refine ac (cM (m:=7) (b:=w.heap.size) (o:=0) (i:=5) (oo:=5) rI eP Z Z dc Z ?_);refine I ?_;refine clb ou (hc:=C8 (iM x5 9 _ hx5 U) ep5) (hk:=?_)
 rintro _ _ K2 rfl;have⟨O,qr,Af,A2,A1⟩:=eE K2.2 O qr Af A2 A1;refine vJ ?_;refine clb BG (hc:=C7 U U) (hk:=?_);rintro _ F1 F3 rfl;have⟨O,qr,Af,A2,A1⟩:=eE F3.2 O qr Af A2 A1;refine I ?_;refine al aQ (λ_ Z1 Z0=>?_);have⟨O,qr,Af,A2,A1⟩:=eE Z1.2 O qr Af A2 A1;refine SA Z0 (λ_ Kp Ab=>?_);have⟨O,qr,Af,A2,A1,_⟩:=vK Kp O qr Af A2 A1;refine I ?_;refine ac (ak (b:=Ad.heap.size) (o:=0) (off:=6) (oo:=6) aP Z Z aM Z Z ?_);refine I ?_;refine cl lC (lv ql qg hL) ?_;rintro _ _ Z6 rfl;have⟨O,qr,Af,A2,Ab,A1⟩:=kW Z6.2 O qr Af A2 Ab A1;refine ac (ak (b:=Ad.heap.size) (o:=0) (off:=10) (oo:=10) aP Z Z aM Z Z ?_);refine SA Af (λ_ Ek Ax=>?_);have Ax:=ab8 Ax (cs:=#[S ((qR (p0-20) 10).1),S ((qR (p0-20) 10).2),S ((qR (1+p1) 10).1),S ((qR (1+p1) 10).2),S ((qR (1+p2) 20).1),S ((qR (1+p2) 20).2),S ((qR (p3-30) 10).1),S ((qR (p3-30) 10).2),S (qR ha hb).1,S (qR ha hb).2,S (qR la lb).1,S (qR la lb).2,S [],S []]) jt;have⟨O,qr,A2,Ab⟩:=wm Ek O qr A2 Ab;have A1:=bB Ek A1;refine I ?_;refine ac (ak (b:=Ad.heap.size) (o:=0) (off:=8) (oo:=8) aP Z Z aM Z Z ?_);refine I ?_;refine cl kp (lw qh qg hU) ?_;rintro _ _ F2 rfl;have⟨O,qr,Ax,A2,Ab,A1⟩:=kW F2.2 O qr Ax A2 Ab A1
 refine ac (ak (b:=Ad.heap.size) (o:=0) (off:=12) (oo:=12) aP Z Z aM Z Z ?_);refine SA Ax (λ_ ny Av=>?_);have Av:=ab8 Av (cs:=#[S ((qR (p0-20) 10).1),S ((qR (p0-20) 10).2),S ((qR (1+p1) 10).1),S ((qR (1+p1) 10).2),S ((qR (1+p2) 20).1),S ((qR (1+p2) 20).2),S ((qR (p3-30) 10).1),S ((qR (p3-30) 10).2),S (qR ha hb).1,S (qR ha hb).2,S (qR la lb).1,S (qR la lb).2,S (qR ua ub).1,S (qR ua ub).2]) jt;have⟨O,qr,A2,Ab⟩:=wm ny O qr A2 Ab;have A1:=bB ny A1;refine I ?_;refine ac (ak (b:=Ad.heap.size) (o:=0) (off:=10) (oo:=10) aP Z Z aM Z Z ?_);refine I ?_;refine ac (ak (b:=Ad.heap.size) (o:=0) (off:=12) (oo:=12) aP Z Z aM Z Z ?_);refine I ?_;refine cl gR (nH qla qua hl) ?_;rintro _ X2 od rfl;have⟨O,qr,Av,A2,Ab,A1⟩:=kW od.2 O qr Av A2 Ab A1;refine I ?_
 refine Ig [(88,93)] (λe W=>(bF w W)/\(X2.heap.size<=W.heap.size)/\(au W w.heap.size 22 #[.int .i64 x0,.int .i64 x1,.int .i64 x2,.int .i64 x3,.int .i64 x4,.int .i64 x5,.int .i64 x6])/\(au W Ay.heap.size 27 #[S [],S [],S [],S [],S [],S [],S [],S [],S [],S [],S [],S [],S [],S []])/\(au W EW.heap.size 25 #[S ((qR (1+p4) 10).1),S ((qR (1+p4) 10).2)])/\(au W F1.heap.size 25 #[S ((qR (p5-4) 20).1),S ((qR (p5-4) 20).2)])/\(au W Ad.heap.size 27 #[S ((qR (p0-20) 10).1),S ((qR (p0-20) 10).2),S ((qR (1+p1) 10).1),S ((qR (1+p1) 10).2),S ((qR (1+p2) 20).1),S ((qR (1+p2) 20).2),S ((qR (p3-30) 10).1),S ((qR (p3-30) 10).2),S (qR ha hb).1,S (qR ha hb).2,S (qR ra rb).1,S (qR ra rb).2,S (qR sa sb).1,S (qR sa sb).2])) ?_ ?_;rcases qa4 bo with ao9|ao9;refine I ?_;exact sw ⟨A1,U,O,qr,A2,Ab,(by rw[<-(hT DE).1,<-(hT DE).2];exact Av)⟩;refine I ?_;refine ac (ak (b:=Ad.heap.size) (o:=0) (off:=6) (oo:=6) aP Z Z aM Z Z ?_);refine I ?_;refine ac (ak (b:=Ad.heap.size) (o:=0) (off:=10) (oo:=10) aP Z Z aM Z Z ?_);refine SA Av (λ_ Wb E4=>?_);have E4:=ab8 E4 (cs:=#[S ((qR (p0-20) 10).1),S ((qR (p0-20) 10).2),S ((qR (1+p1) 10).1),S ((qR (1+p1) 10).2),S ((qR (1+p2) 20).1),S ((qR (1+p2) 20).2),S ((qR (p3-30) 10).1),S ((qR (p3-30) 10).2),S (qR ha hb).1,S (qR ha hb).2,S ((qR (p3-30) 10).1),S ((qR (p3-30) 10).2),S (qR ua ub).1,S (qR ua ub).2]) jt;have⟨O,qr,A2,Ab,A1,_⟩:=vK Wb O qr A2 Ab A1;refine I ?_;refine ac (ak (b:=Ad.heap.size) (o:=0) (off:=8) (oo:=8) aP Z Z aM Z Z ?_);refine I ?_;refine ac (ak (b:=Ad.heap.size) (o:=0) (off:=12) (oo:=12) aP Z Z aM Z Z ?_);refine SA E4 (λ_ Z5 E7=>?_);have E7:=ab8 E7 (cs:=#[S ((qR (p0-20) 10).1),S ((qR (p0-20) 10).2),S ((qR (1+p1) 10).1),S ((qR (1+p1) 10).2),S ((qR (1+p2) 20).1),S ((qR (1+p2) 20).2),S ((qR (p3-30) 10).1),S ((qR (p3-30) 10).2),S (qR ha hb).1,S (qR ha hb).2,S ((qR (p3-30) 10).1),S ((qR (p3-30) 10).2),S (qR ha hb).1,S (qR ha hb).2]) jt
 have⟨O,qr,A2,Ab,A1,_⟩:=vK Z5 O qr A2 Ab A1;refine I ?_;exact sw ⟨A1,U,O,qr,A2,Ab,(by rw[<-(hF DE).1,<-(hF DE).2];exact E7)⟩;rintro _ _ ⟨Ao,Z9,O,qr,A2,Ab,Aw⟩;refine I ?_;refine ac (cM (m:=7) (b:=w.heap.size) (o:=0) (i:=6) (oo:=6) rI eP Z Z dc Z ?_);refine I ?_;refine clb ou (hc:=C8 (iM x6 4 _ hx6 U) ep6) (hk:=?_);rintro _ F7 Jx rfl;have⟨O,qr,A2,Ab,Aw,Ao⟩:=kW Jx.2 O qr A2 Ab Aw Ao;refine ac (OF (k:=.i64) (a:=p6) (b:=0) (q:=decide (p6=0)) Z Z Z ?_);refine lS ?_;refine jG ?_;refine Ig [(98,102)] (λe W=>(bF w W)/\(F7.heap.size<=W.heap.size)/\(au W w.heap.size 22 #[.int .i64 x0,.int .i64 x1,.int .i64 x2,.int .i64 x3,.int .i64 x4,.int .i64 x5,.int .i64 x6])/\(au W Ay.heap.size 27 #[S [],S [],S [],S [],S [],S [],S [],S [],S [],S [],S [],S [],S [],S []])/\(au W EW.heap.size 25 #[S ((qR (1+p4) 10).1),S ((qR (1+p4) 10).2)])/\(au W F1.heap.size 25 #[S ((qR (p5-4) 20).1),S ((qR (p5-4) 20).2)])/\(au W Ad.heap.size 27 #[S ((qR (p0-20) 10).1),S ((qR (p0-20) 10).2),S ((qR (1+p1) 10).1),S ((qR (1+p1) 10).2),S ((qR (1+p2) 20).1),S ((qR (1+p2) 20).2),S ((qR (p3-30) 10).1),S ((qR (p3-30) 10).2),S (qR ha hb).1,S (qR ha hb).2,S (qR ra rb).1,S (qR ra rb).2,S (qR za zb).1,S (qR za zb).2])) ?_ ?_;by_cases apf:p6=0
 refine I ?_;refine ac (ak (b:=Ad.heap.size) (o:=0) (off:=12) (oo:=12) aP Z Z aM Z Z ?_);refine I ?_;refine clb lC (hc:=lv qs qw (hZ DE)) (hk:=?_);rintro _ _ R1 rfl;have⟨O,qr,A2,Ab,Aw,Ao⟩:=kW R1.2 O qr A2 Ab Aw Ao;refine ac (ak (b:=Ad.heap.size) (o:=0) (off:=12) (oo:=12) aP Z Z aM Z Z ?_);refine SA Aw (λ_ wr E1=>?_);have E1:=ab8 E1 (cs:=#[S ((qR (p0-20) 10).1),S ((qR (p0-20) 10).2),S ((qR (1+p1) 10).1),S ((qR (1+p1) 10).2),S ((qR (1+p2) 20).1),S ((qR (1+p2) 20).2),S ((qR (p3-30) 10).1),S ((qR (p3-30) 10).2),S (qR ha hb).1,S (qR ha hb).2,S (qR ra rb).1,S (qR ra rb).2,S (qR za zb).1,S (qR za zb).2]) jt;have⟨O,qr,A2,Ab,Ao,_⟩:=vK wr O qr A2 Ab Ao;refine I ?_;exact sw ⟨Ao,U,O,qr,A2,Ab,E1⟩;refine I ?_;exact sw ⟨Ao,U,O,qr,A2,Ab,(by rw[<-hN DE];exact Aw)⟩;rintro _ _ ⟨E0,Z8,O,qr,A2,Ab,E9⟩;refine I ?_;refine ac (ar (cs:=[S ((qR (p0-20) 10).1),S ((qR (p0-20) 10).2),S ((qR (1+p1) 10).1),S ((qR (1+p1) 10).2),S ((qR (1+p2) 20).1),S ((qR (1+p2) 20).2),S ((qR (p3-30) 10).1),S ((qR (p3-30) 10).2),S (qR ha hb).1,S (qR ha hb).2,S (qR ra rb).1,S (qR ra rb).2,S (qR za zb).1,S (qR za zb).2]) (b:=Ad.heap.size) (o:=0) aP Z cD Z (aa1 E9 (i:=0) jt) ?_)
 refine ac (bg (b:=Ay.heap.size) (o:=0) (vs:=[S ((qR (p0-20) 10).1),S ((qR (p0-20) 10).2),S ((qR (1+p1) 10).1),S ((qR (1+p1) 10).2),S ((qR (1+p2) 20).1),S ((qR (1+p2) 20).2),S ((qR (p3-30) 10).1),S ((qR (p3-30) 10).2),S (qR ha hb).1,S (qR ha hb).2,S (qR ra rb).1,S (qR ra rb).2,S (qR za zb).1,S (qR za zb).2]) cD Z Z MT qr (qa3 Z) (λ_ EP EE=>?_));have EE:=ab8 EE (cs:=#[S ((qR (p0-20) 10).1),S ((qR (p0-20) 10).2),S ((qR (1+p1) 10).1),S ((qR (1+p1) 10).2),S ((qR (1+p2) 20).1),S ((qR (1+p2) 20).2),S ((qR (p3-30) 10).1),S ((qR (p3-30) 10).2),S (qR ha hb).1,S (qR ha hb).2,S (qR ra rb).1,S (qR ra rb).2,S (qR za zb).1,S (qR za zb).2]) jt;have⟨O,A2,Ab,E9⟩:=wm EP O A2 Ab E9;have E0:=bB EP E0;refine I ?_;refine aI (v:=.agg #[S ((qR (p0-20) 10).1),S ((qR (p0-20) 10).2),S ((qR (1+p1) 10).1),S ((qR (1+p1) 10).2),S ((qR (1+p2) 20).1),S ((qR (1+p2) 20).2),S ((qR (p3-30) 10).1),S ((qR (p3-30) 10).2),S (qR ha hb).1,S (qR ha hb).2,S (qR ra rb).1,S (qR ra rb).2,S (qR za zb).1,S (qR za zb).2]) (cF  rfl ?_) E0 Z
 refine ag (t:=2) (cs:=[S ((qR (p0-20) 10).1),S ((qR (p0-20) 10).2),S ((qR (1+p1) 10).1),S ((qR (1+p1) 10).2),S ((qR (1+p2) 20).1),S ((qR (1+p2) 20).2),S ((qR (p3-30) 10).1),S ((qR (p3-30) 10).2),S (qR ha hb).1,S (qR ha hb).2,S (qR ra rb).1,S (qR ra rb).2,S (qR za zb).1,S (qR za zb).2]) (b:=Ay.heap.size) (o:=0) aP Z cD ?_ ?_;exact Z;exact aa1 EE (i:=0) jt
def oc (h:p:=by kernel_rfl):p:=h
def S8 {b:Int}(h1:Q9 a b)(h2:Q9 c d)(hc:0<c)(he:qR (a*d) (b*c)=qR e f):CL 156 #[QV a b,QV c d] w (aC w λv _=>v=.tuple #[QV e f,.int .i64 0]):=by
 have h:=Kl (qR a b).1 (qR a b).2 (qR c d).1 (qR c d).2 w (gF h1).1 (gF h1).2 (gF h2).1 (gF h2).2
 rw[show sy ((qR a b).1,(qR a b).2) ((qR c d).1,(qR c d).2)=some (qR (a*d) (b*c))from Jl h1 h2 hc,he]at h
 exact h
def S9 {b:Int}(h1:Q9 a b)(h2:Q9 c d)(he:qR (a*c) (b*d)=qR e f):CL 112 #[QV a b,QV c d] w (aC w λv _=>v=.tuple #[QV e f,.int .i64 0]):=S5 h1 h2 ((KQ h1 h2).trans (qb1 some he))
def Da {n:Int}(hn:-100000000<=n/\n<=100000000):
 CL 58 #[.int .i64 n] w (aC w λv w'=>v=QV n 1):=by
 refine aE func58 Z (I ?_);refine al aQ (λ_ Ad qr=>?_);have O:=Ad.2;refine I ?_;refine clb BG (hc:=C7 hn dc) (hk:=?_);rintro _ _ Am rfl;have⟨qr,O⟩:=bD Am.2 qr O;refine I ?_;refine al aQ (λ_ Ap Ab=>?_);have⟨qr,O⟩:=bD Ap.2 qr O;refine SA Ab (λ_ Ao A2=>?_);have⟨qr,O,_⟩:=ks Ao qr O;refine I ?_;refine SA qr (λ_ A1 Af=>?_);have A2:=pb A1 A2;have O:=bB A1 O;refine I ?_;refine aI (v:=QV n 1) (cF  rfl ?_) O Z;refine ag (t:=2) (cs:=[S (qR n 1).1,S (qR n 1).2]) (b:=w.heap.size) (o:=0) eB Z aM ?_ ?_;exact Z;exact aa1 Af (i:=0) Z
def Bg {zb:Int}(ha:Q9 ra rb)(hb:Q9 ka kb)(he:qR (ra*ka) (rb*kb)=qR za zb):
 CL 64 #[QV ra rb,QV ka kb] w (aC w λv w'=>v=QV za zb):=by
 refine aE func64 Z (I ?_);refine bx (λ_ Aw qr=>?_);have O:=Aw.2;refine bx (λAm As A1=>?_);have⟨qr,O⟩:=bD As.2 qr O;refine al aQ (λ_ Af A2=>?_);have⟨qr,A1,O⟩:=bC Af.2 qr A1 O;refine I ?_;refine cl WU (S9 ha hb he) ?_;rintro _ _ Av rfl;have⟨qr,A1,A2,O⟩:=bW Av.2 qr A1 A2 O;refine I ?_;refine al aQ (λ_ Ap Ar=>?_);have⟨qr,A1,A2,O⟩:=bW Ap.2 qr A1 A2 O;refine SA Ar (λ_ Ao Ad=>?_);have⟨qr,A1,A2,O,_⟩:=l7 Ao qr A1 A2 O;refine I ?_;refine SA A2 (λ_ Ab Aq=>?_);have⟨qr,A1,Ad⟩:=kt Ab qr A1 Ad;have O:=bB Ab O;refine I ?_;refine aI (v:=QV za zb) (cF  rfl ?_) O Z;refine ag (t:=4) (cs:=[S (qR za zb).1,S (qR za zb).2]) (b:=Am.heap.size) (o:=0) eB Z aM ?_ ?_;exact Z;exact aa1 Aq (i:=0) Z
def pZ {zb:Int}(ha:Q9 ra rb)(hb:Q9 ka kb)(hk:0<ka)(he:qR (ra*kb) (rb*ka)=qR za zb):
 CL 110 #[QV ra rb,QV ka kb] w (aC w λv w'=>v=QV za zb):=by
 refine aE func110 Z (I ?_);refine bx (λ_ Aw qr=>?_);have O:=Aw.2;refine bx (λAm As A1=>?_);have⟨qr,O⟩:=bD As.2 qr O;refine al aQ (λ_ Af A2=>?_);have⟨qr,A1,O⟩:=bC Af.2 qr A1 O;refine I ?_;refine cl WW (S8 ha hb hk he) ?_;rintro _ _ Av rfl;have⟨qr,A1,A2,O⟩:=bW Av.2 qr A1 A2 O;refine I ?_;refine al aQ (λ_ Ap Ar=>?_);have⟨qr,A1,A2,O⟩:=bW Ap.2 qr A1 A2 O;refine SA Ar (λ_ Ao Ad=>?_);have⟨qr,A1,A2,O,_⟩:=l7 Ao qr A1 A2 O;refine I ?_;refine SA A2 (λ_ Ab Aq=>?_);have⟨qr,A1,Ad⟩:=kt Ab qr A1 Ad;have O:=bB Ab O;refine I ?_;refine aI (v:=QV za zb) (cF  rfl ?_) O Z;refine ag (t:=4) (cs:=[S (qR za zb).1,S (qR za zb).2]) (b:=Am.heap.size) (o:=0) eB Z aM ?_ ?_;exact Z;exact aa1 Aq (i:=0) Z
def Bh (hL:CR 21 #[.agg #[S x1,S x2],.agg #[S y1,S y2]] (.tuple #[.bool true,.bool bq])):
 CL 106 #[.agg #[S x1,S x2],.agg #[S y1,S y2]] w (aC w λv w'=>v=.agg #[S x1,S x2]):=by
 refine aE func106 Z (I ?_);refine bx (λ_ Af qr=>?_);have O:=Af.2;refine bx (λAq Ad A1=>?_);have⟨qr,O⟩:=bD Ad.2 qr O;refine al aQ (λ_ Am A2=>?_);have⟨qr,A1,O⟩:=bC Am.2 qr A1 O;refine I ?_;refine cl gR (hL _) ?_;rintro _ _ Ao rfl;have⟨qr,A1,A2,O⟩:=bW Ao.2 qr A1 A2 O;refine I ?_;refine SA A2 (λ_ Ab Ap=>?_);have⟨qr,A1⟩:=eR Ab qr A1;have O:=bB Ab O;refine I ?_;refine aI (v:=.agg #[S x1,S x2]) (cF  rfl ?_) O Z;refine ag (t:=4) (cs:=[S x1,S x2]) (b:=Aq.heap.size) (o:=0) eB Z aM ?_ ?_;exact Z;exact aa1 Ap (i:=0) Z
def Bi (hL:CR 21 #[.agg #[S x1,S x2],.agg #[S y1,S y2]] (.tuple #[.bool false,.bool bq])):
 CL 106 #[.agg #[S x1,S x2],.agg #[S y1,S y2]] w (aC w λv w'=>v=.agg #[S y1,S y2]):=by
 refine aE func106 Z (I ?_);refine bx (λ_ Af qr=>?_);have O:=Af.2;refine bx (λAd Aq A1=>?_);have⟨qr,O⟩:=bD Aq.2 qr O;refine al aQ (λ_ Am A2=>?_);have⟨qr,A1,O⟩:=bC Am.2 qr A1 O;refine I ?_;refine cl gR (hL _) ?_;rintro _ _ Ao rfl;have⟨qr,A1,A2,O⟩:=bW Ao.2 qr A1 A2 O;refine I ?_;refine SA A2 (λ_ Ab Ap=>?_);have⟨qr,A1⟩:=eR Ab qr A1;have O:=bB Ab O;refine I ?_;refine aI (v:=.agg #[S y1,S y2]) (cF  rfl ?_) O Z;refine ag (t:=4) (cs:=[S y1,S y2]) (b:=Ad.heap.size) (o:=0) eB Z aM ?_ ?_;exact Z;exact aa1 Ap (i:=0) Z
def Db (hL:CR 21 #[.agg #[S x1,S x2],.agg #[S y1,S y2]] (.tuple #[.bool true,.bool bq])):
 CL 63 #[.agg #[S x1,S x2],.agg #[S y1,S y2]] w (aC w λv w'=>v=.agg #[S y1,S y2]):=by
 refine aE func63 Z (I ?_);refine bx (λ_ Af qr=>?_);have O:=Af.2;refine bx (λAd Aq A1=>?_);have⟨qr,O⟩:=bD Aq.2 qr O;refine al aQ (λ_ Am A2=>?_);have⟨qr,A1,O⟩:=bC Am.2 qr A1 O;refine I ?_;refine cl gR (hL _) ?_;rintro _ _ Ao rfl;have⟨qr,A1,A2,O⟩:=bW Ao.2 qr A1 A2 O;refine I ?_;refine SA A2 (λ_ Ab Ap=>?_);have⟨qr,A1⟩:=eR Ab qr A1;have O:=bB Ab O;refine I ?_;refine aI (v:=.agg #[S y1,S y2]) (cF  rfl ?_) O Z;refine ag (t:=4) (cs:=[S y1,S y2]) (b:=Ad.heap.size) (o:=0) eB Z aM ?_ ?_;exact Z;exact aa1 Ap (i:=0) Z
def Dc (hL:CR 21 #[.agg #[S x1,S x2],.agg #[S y1,S y2]] (.tuple #[.bool false,.bool bq])):
 CL 63 #[.agg #[S x1,S x2],.agg #[S y1,S y2]] w (aC w λv w'=>v=.agg #[S x1,S x2]):=by
 refine aE func63 Z (I ?_);refine bx (λ_ Af qr=>?_);have O:=Af.2;refine bx (λAq Ad A1=>?_);have⟨qr,O⟩:=bD Ad.2 qr O;refine al aQ (λ_ Am A2=>?_);have⟨qr,A1,O⟩:=bC Am.2 qr A1 O;refine I ?_;refine cl gR (hL _) ?_;rintro _ _ Ao rfl;have⟨qr,A1,A2,O⟩:=bW Ao.2 qr A1 A2 O;refine I ?_;refine SA A2 (λ_ Ab Ap=>?_);have⟨qr,A1⟩:=eR Ab qr A1;have O:=bB Ab O;refine I ?_;refine aI (v:=.agg #[S x1,S x2]) (cF  rfl ?_) O Z;refine ag (t:=4) (cs:=[S x1,S x2]) (b:=Aq.heap.size) (o:=0) eB Z aM ?_ ?_;exact Z;exact aa1 Ap (i:=0) Z
def Dd {p3 p4 q3 q4:List UInt8}(hm:CR 58 #[.int .i64 (-9)] (.agg #[S m1,S m2]))(hn:CR 58 #[.int .i64 9] (.agg #[S n1,S n2]))(hl:CR 106 #[.agg #[S n1,S n2],.agg #[S z1,S z2]] (.agg #[S l1,S l2]))(hg:CR 63 #[.agg #[S m1,S m2],.agg #[S l1,S l2]] (.agg #[S g1,S g2]))(hd:CR 107 #[.agg #[S g1,S g2],.int .i64 6] (.tuple #[.agg #[S d1,S d2],.int .i64 0]))(hu:CR 108 #[.agg #[S g1,S g2],.int .i64 6] (.tuple #[.agg #[S u1,S u2],.int .i64 0]))(hN:CR 109 #[.agg #[S d1,S d2],.int .i64 pl] (.tuple #[.agg #[S p1,S p2,S p3,S p4],.int .i64 0]))(hM:CR 109 #[.agg #[S u1,S u2],.int .i64 pl] (.tuple #[.agg #[S q1,S q2,S q3,S q4],.int .i64 0])):
 CL 59 #[.agg #[S z1,S z2],.int .i64 pl] w (aC w λv w'=>v=.agg #[S p1,S p2,S q3,S q4]):=by
 refine aE func59 Z (I ?_);refine bx (λAq F2 Ad=>?_);have O:=F2.2;refine al ap (λ_ E4 qr=>?_);have⟨Ad,O⟩:=bD E4.2 Ad O;refine I ?_;refine bY 3 ?_;refine aF (V:=.agg #[S m1,S m2]) (λ_ _ _ _=>?_) ?_;refine cl fg (hm _) ?_;rintro _ _ F5 rfl;have Aw:=F5.2;refine I ?_;exact fs ⟨Aw,rfl⟩;refine aF (V:=.agg #[S n1,S n2]) (λ_ _ _ _=>?_) ?_;refine cl fg (hn _) ?_;rintro _ _ Ap rfl;have E9:=Ap.2;refine I ?_;exact fs ⟨E9,rfl⟩;refine sf ?_;intro _ _ ny _;have⟨Ad,qr,O⟩:=bC ny.2 Ad qr O;refine cl xH (hl _) ?_;rintro _ _ od rfl;have⟨Ad,qr,O⟩:=bC od.2 Ad qr O;refine cl ms (hg _) ?_;rintro _ _ EW rfl;have⟨Ad,qr,O⟩:=bC EW.2 Ad qr O;refine SA Ad (λ_ E7 A1=>?_);have⟨qr,O,_⟩:=ks E7 qr O;refine I ?_;refine cl HP (hd _) ?_;rintro _ _ F6 rfl;have⟨A1,qr,O⟩:=bC F6.2 A1 qr O;refine I ?_;refine al aQ (λ_ Ar F4=>?_);have⟨A1,qr,O⟩:=bC Ar.2 A1 qr O;refine SA F4 (λ_ As A2=>?_);have⟨A1,qr,O,_⟩:=mD As A1 qr O;refine I ?_;refine cl HQ (hu _) ?_;rintro _ _ G3 rfl;have⟨A1,qr,A2,O⟩:=bW G3.2 A1 qr A2 O;refine I ?_;refine al aQ (λ_ F3 Ax=>?_);have⟨A1,qr,A2,O⟩:=bW F3.2 A1 qr A2 O;refine SA Ax (λ_ EE Ab=>?_);have⟨A1,qr,A2,O,_⟩:=l7 EE A1 qr A2 O;refine I ?_;refine cl HR (hN _) ?_;rintro _ _ F8 rfl;have⟨A1,qr,A2,Ab,O⟩:=eE F8.2 A1 qr A2 Ab O
 refine I ?_;refine al ap (λ_ F7 Ay=>?_);have⟨A1,qr,A2,Ab,O⟩:=eE F7.2 A1 qr A2 Ab O;refine SA Ay (λ_ Ek Af=>?_);have⟨A1,qr,A2,Ab,O,_⟩:=vK Ek A1 qr A2 Ab O;refine I ?_;refine cl HR (hM _) ?_;rintro _ _ F1 rfl;have⟨A1,qr,A2,Ab,Af,O⟩:=kW F1.2 A1 qr A2 Ab Af O;refine I ?_;refine al ap (λ_ EP E0=>?_);have⟨A1,qr,A2,Ab,Af,O⟩:=kW EP.2 A1 qr A2 Ab Af O;refine SA E0 (λ_ E1 Ao=>?_);have⟨A1,qr,A2,Ab,Af,O,_⟩:=Ck E1 A1 qr A2 Ab Af O;refine I ?_;refine ac (aV (vs:=[(0,.agg #[S p1,S p2]),(1,.agg #[S q3,S q4])]) (cells:=#[S p1,S p2,S q3,S q4]) (pl:=[(0,2),(2,2)]) aJ ap oc Z oc ?_);refine SA qr (λ_ Am Av=>?_);have⟨A1,A2,Ab,Af,Ao⟩:=jv Am A1 A2 Ab Af Ao;have O:=bB Am O;refine I ?_;refine aI (v:=.agg #[S p1,S p2,S q3,S q4]) (cF  rfl ?_) O Z;refine ag (t:=4) (cs:=[S p1,S p2,S q3,S q4]) (b:=Aq.heap.size) (o:=0) aJ Z ay ?_ ?_;exact Z;exact aa1 Av (i:=0) Z
def GA {e1 e2 k3 k4:List UInt8}(hs1:CR 20 #[.agg #[S b1,S b2],.agg #[S m1,S m2]] (.agg #[S d1,S d2]))(hs2:CR 20 #[.agg #[S a1,S a2],.agg #[S m1,S m2]] (.agg #[S e1,S e2]))(hq1:CR 110 #[.agg #[S d1,S d2],.agg #[S s1,S s2]] (.agg #[S f1,S f2]))(hq2:CR 110 #[.agg #[S e1,S e2],.agg #[S s1,S s2]] (.agg #[S g1,S g2]))(hx:CR 59 #[.agg #[S f1,S f2],.int .i64 pl] (.agg #[S x1,S x2,S x3,S x4]))(hy:CR 59 #[.agg #[S g1,S g2],.int .i64 pl] (.agg #[S y1,S y2,S y3,S y4]))(hw:CR 58 #[.int .i64 0] (.agg #[S o1,S o2]))(hk1:CR 20 #[.agg #[S x1,S x2],.agg #[S y3,S y4]] (.agg #[S k1,S k2]))(hk3:CR 20 #[.agg #[S x3,S x4],.agg #[S y1,S y2]] (.agg #[S k3,S k4]))(hr1:CR 63 #[.agg #[S o1,S o2],.agg #[S k1,S k2]] (.agg #[S r1,S r2]))(hr3:CR 63 #[.agg #[S o1,S o2],.agg #[S k3,S k4]] (.agg #[S r3,S r4])):
 CL 61 #[.agg #[S a1,S a2],.agg #[S b1,S b2],.agg #[S m1,S m2],.agg #[S s1,S s2],.int .i64 pl] w (aC w λv w'=>v=.agg #[S r1,S r2,S r3,S r4]):=by
 refine aE func61 Z (I ?_);refine bx (λ_ G3 qr=>?_);have O:=G3.2;refine bx (λ_ EW A1=>?_);have⟨qr,O⟩:=bD EW.2 qr O;refine bx (λ_ Wa A2=>?_);have⟨qr,A1,O⟩:=bC Wa.2 qr A1 O;refine bx (λTT T4 Ab=>?_);have⟨qr,A1,A2,O⟩:=bW T4.2 qr A1 A2 O;refine al ap (λR1 E9 Ad=>?_);have⟨qr,A1,A2,Ab,O⟩:=eE E9.2 qr A1 A2 Ab O;refine I ?_;refine bY 8 ?_;refine sf ?_;refine aF (V:=.agg #[S d1,S d2]) (λ_ _ _ _=>?_) ?_;refine cl kp (hs1 _) ?_;rintro _ _ W1 rfl;have L2:=W1.2;refine I ?_;exact fs ⟨L2,rfl⟩;refine sf ?_;refine aF (V:=.agg #[S f1,S f2]) (λ_ _ _ _=>?_) ?_;refine cl tW (hq1 _) ?_;rintro _ _ F1 rfl;have S1:=F1.2;refine I ?_;exact fs ⟨S1,rfl⟩;refine sf ?_;refine aF (V:=.agg #[S x1,S x2,S x3,S x4]) (λ_ _ _ _=>?_) ?_;refine cl xF (hx _) ?_;rintro _ _ Ix rfl;have Ne:=Ix.2;refine I ?_;exact fs ⟨Ne,rfl⟩;refine eU (λv Ap=>∃b:Nat,v=pT b/\R1.heap.size<=b/\au Ap b 33 #[S [],S [],S [],S []]) (hs:=λ_ _ _ k ⟨b,e,l,h⟩=>⟨b,e,l,h.ext k⟩) (λ_ _ W3 _=>?_) ?_;refine al ap (λ_ F3 E1=>?_);have E7:=F3.2;refine I ?_;exact fs ⟨E7,⟨_,rfl,(by have:=bz W3;omega),E1⟩⟩;refine sf ?_;intro _ _ F2 EP;have⟨qr,A1,A2,Ab,Ad,O⟩:=kW F2.2 qr A1 A2 Ab Ad O;obtain⟨_,_,_,Av⟩:=(EP 7 11 Z Z);have X2:=bt Av
 refine SA Av (λT3 W2 Af=>?_);have⟨qr,A1,A2,Ab,Ad,O,_⟩:=Ck W2 qr A1 A2 Ab Ad O;refine I ?_;refine bY 8 ?_;refine sf ?_;refine aF (V:=.agg #[S e1,S e2]) (λ_ _ _ _=>?_) ?_;refine cl kp (hs2 _) ?_;rintro _ _ Wb rfl;have F4:=Wb.2;refine I ?_;exact fs ⟨F4,rfl⟩;refine sf ?_;refine aF (V:=.agg #[S g1,S g2]) (λ_ _ _ _=>?_) ?_;refine cl tW (hq2 _) ?_;rintro _ _ Ay rfl;have Jx:=Ay.2;refine I ?_;exact fs ⟨Jx,rfl⟩;refine sf ?_;refine aF (V:=.agg #[S y1,S y2,S y3,S y4]) (λ_ _ _ _=>?_) ?_;refine cl xF (hy _) ?_;rintro _ _ ny rfl;have F6:=ny.2;refine I ?_;exact fs ⟨F6,rfl⟩;refine eU (λv Ap=>∃b:Nat,v=pT b/\T3.heap.size<=b/\au Ap b 33 #[S [],S [],S [],S []]) (hs:=λ_ _ _ k ⟨b,e,l,h⟩=>⟨b,e,l,h.ext k⟩) (λ_ _ od _=>?_) ?_;refine al ap (λ_ N1 F5=>?_);have EE:=N1.2;refine I ?_;exact fs ⟨EE,⟨_,rfl,(by have:=bz od;omega),F5⟩⟩;refine sf ?_;intro _ _ As F7;have⟨qr,A1,A2,Ab,Ad⟩:=dY As.2 qr A1 A2 Ab Ad;have⟨Af,O⟩:=bD As.2 Af O;obtain⟨_,_,_,E4⟩:=(F7 7 12 Z Z);refine SA E4 (λ_ Ao Am=>?_);have⟨qr,A1,A2,Ab,Ad⟩:=jv Ao qr A1 A2 Ab Ad;have Af:=pb Ao Af;have O:=bB Ao O;refine I ?_;refine bY 12 ?_;refine aF (V:=.agg #[S o1,S o2]) (λ_ _ _ _=>?_) ?_;refine cl fg (hw _) ?_;rintro _ _ No rfl;have T2:=No.2;refine I ?_
 exact fs ⟨T2,rfl⟩;refine sf ?_;refine aF (V:=.agg #[S k1,S k2]) (λ_ _ _ _=>?_) ?_;refine cl kp (hk1 _) ?_;rintro _ _ W0 rfl;have Ek:=W0.2;refine I ?_;exact fs ⟨Ek,rfl⟩;refine aF (V:=.agg #[S r1,S r2]) (λ_ _ _ _=>?_) ?_;refine cl ms (hr1 _) ?_;rintro _ _ K2 rfl;have G4:=K2.2;refine I ?_;exact fs ⟨G4,rfl⟩;refine aF (V:=.agg #[S o1,S o2]) (λ_ _ _ _=>?_) ?_;refine cl fg (hw _) ?_;rintro _ _ Kp rfl;have F8:=Kp.2;refine I ?_;exact fs ⟨F8,rfl⟩;refine sf ?_;intro _ _ Ax _;have⟨qr,A1,A2,Ab,Ad⟩:=dY Ax.2 qr A1 A2 Ab Ad;have⟨Af,Am,O⟩:=bC Ax.2 Af Am O;refine cl kp (hk3 _) ?_;rintro _ _ Aw rfl;have⟨qr,A1,A2,Ab,Ad⟩:=dY Aw.2 qr A1 A2 Ab Ad;have⟨Af,Am,O⟩:=bC Aw.2 Af Am O;refine cl ms (hr3 _) ?_;rintro _ _ Ar rfl;have⟨qr,A1,A2,Ab,Ad⟩:=dY Ar.2 qr A1 A2 Ab Ad;have⟨Af,Am,O⟩:=bC Ar.2 Af Am O;refine ac (aV (vs:=[(0,.agg #[S r1,S r2]),(1,.agg #[S r3,S r4])]) (cells:=#[S r1,S r2,S r3,S r4]) (pl:=[(0,2),(2,2)]) aJ ap oc Z oc ?_);refine SA Ad (λ_ Aq E0=>?_);have⟨qr,A1,A2,Ab,Af⟩:=jv Aq qr A1 A2 Ab Af;have Am:=pb Aq Am;have O:=bB Aq O;refine I ?_;refine aI (v:=.agg #[S r1,S r2,S r3,S r4]) (cF  rfl ?_) O Z;refine ag (t:=10) (cs:=[S r1,S r2,S r3,S r4]) (b:=TT.heap.size) (o:=0) aJ Z ay ?_ ?_;exact Z
 exact aa1 E0 (i:=0) Z
def Bj {kaA WD:List UInt8}(hm:CR 61 #[.agg #[S t11,S WD],.agg #[S t13,S t14],.agg #[S x1,S x2],.agg #[S t5,S t6],.int .i64 pl] (.agg #[S r1,S r2,S r3,S r4])):
 CL 111 #[.agg #[S t1,S t2,S t3,S t4,S t5,S t6,S kaA,S t8,S t9,S t10,S t11,S WD,S t13,S t14],.agg #[S x1,S x2],.int .i64 pl] w (aC w λv w'=>v=.agg #[S r1,S r2,S r3,S r4]):=by
 refine aE func111 Z (I ?_);refine bx (λ_ Af qr=>?_);have O:=Af.2;refine bx (λAq Ad A1=>?_);have⟨qr,O⟩:=bD Ad.2 qr O;refine al ap (λ_ Am A2=>?_);have⟨qr,A1,O⟩:=bC Am.2 qr A1 O;refine I ?_;refine ac (ak (b:=w.heap.size) (o:=0) (off:=10) (oo:=10) aP Z Z aM Z Z ?_);refine I ?_;refine ac (ak (b:=w.heap.size) (o:=0) (off:=12) (oo:=12) aP Z Z aM Z Z ?_);refine I ?_;refine ac (ak (b:=w.heap.size) (o:=0) (off:=4) (oo:=4) aP Z Z aM Z Z ?_);refine I ?_;refine cl HO (hm _) ?_;rintro _ _ Ao rfl;have⟨qr,A1,A2,O⟩:=bW Ao.2 qr A1 A2 O;refine SA A2 (λ_ Ab Ap=>?_);have⟨qr,A1⟩:=eR Ab qr A1;have O:=bB Ab O;refine I ?_;refine aI (v:=.agg #[S r1,S r2,S r3,S r4]) (cF  rfl ?_) O Z;refine ag (t:=6) (cs:=[S r1,S r2,S r3,S r4]) (b:=Aq.heap.size) (o:=0) aJ Z ay ?_ ?_;exact Z;exact aa1 Ap (i:=0) Z
def Bl {kaA WD w1 w2 z3 z4:List UInt8}{d1 d2:Bool}{v0:Value}(hx:CR 111 #[.agg #[S t1,S t2,S t3,S t4,S t5,S t6,S kaA,S t8,S t9,S t10,S t11,S WD,S t13,S t14],.agg #[S a1,S a2],.int .i64 pl] (.agg #[S x1,S x2,S x3,S x4]))(hy:CR 111 #[.agg #[S t1,S t2,S t3,S t4,S t5,S t6,S kaA,S t8,S t9,S t10,S t11,S WD,S t13,S t14],.agg #[S u1,S u2],.int .i64 pl] (.agg #[S y1,S y2,S y3,S y4]))(hl:CR 106 #[.agg #[S x1,S x2],.agg #[S y1,S y2]] (.agg #[S l1,S l2]))(hg:CR 63 #[.agg #[S x3,S x4],.agg #[S y3,S y4]] (.agg #[S g1,S g2]))(hA:CR 19 #[.agg #[S t11,S WD],.agg #[S t13,S t14]] (.agg #[S s1,S s2]))(hW:CR 58 #[.int .i64 2] (.agg #[S w1,S w2]))(hD:CR 110 #[.agg #[S s1,S s2],.agg #[S w1,S w2]] (.agg #[S c1,S c2]))(hL1:CR 21 #[.agg #[S c1,S c2],.agg #[S a1,S a2]] (.tuple #[.bool d1,.bool e1]))(hL2:CR 21 #[.agg #[S u1,S u2],.agg #[S c1,S c2]] (.tuple #[.bool d2,.bool e2]))(hC:CR 111 #[.agg #[S t1,S t2,S t3,S t4,S t5,S t6,S kaA,S t8,S t9,S t10,S t11,S WD,S t13,S t14],.agg #[S c1,S c2],.int .i64 pl] (.agg #[S z1,S z2,S z3,S z4]))(hg2:CR 63 #[.agg #[S g1,S g2],.agg #[S z3,S z4]] (.agg #[S k1,S k2]))(hT:d1=true\/d2=true->.agg #[S l1,S l2,S g1,S g2]=v0)(hF:d1=false->d2=false->.agg #[S l1,S l2,S k1,S k2]=v0):
 CL 62 #[.agg #[S t1,S t2,S t3,S t4,S t5,S t6,S kaA,S t8,S t9,S t10,S t11,S WD,S t13,S t14],.agg #[S a1,S a2],.agg #[S u1,S u2],.int .i64 pl] w (aC w λv w'=>v=v0):=by
 refine aE func62 Z (I ?_);refine bx (λ_ F5 O=>?_);have qr:=F5.2;refine bx (λ_ W0 A1=>?_);have⟨O,qr⟩:=bD W0.2 O qr;refine bx (λAv W1 A2=>?_);have⟨O,A1,qr⟩:=bC W1.2 O A1 qr;refine al ap (λ_ Wb Ab=>?_);have⟨O,A1,A2,qr⟩:=bW Wb.2 O A1 A2 qr;refine I ?_;refine ac (ar (cs:=[S t1,S t2,S t3,S t4,S t5,S t6,S kaA,S t8,S t9,S t10,S t11,S WD,S t13,S t14]) (b:=w.heap.size) (o:=0) aP Z cD Z (aa1 O (i:=0) oc) ?_);refine I ?_;refine cl BX (hx _) ?_;rintro _ _ F8 rfl;have⟨O,A1,A2,Ab,qr⟩:=eE F8.2 O A1 A2 Ab qr;refine al ap (λ_ R1 G3=>?_);have⟨O,A1,A2,Ab,qr⟩:=eE R1.2 O A1 A2 Ab qr;refine SA G3 (λ_ Ix Ad=>?_);have⟨O,A1,A2,Ab,qr,_⟩:=vK Ix O A1 A2 Ab qr;refine I ?_;refine ac (ar (cs:=[S t1,S t2,S t3,S t4,S t5,S t6,S kaA,S t8,S t9,S t10,S t11,S WD,S t13,S t14]) (b:=w.heap.size) (o:=0) aP Z cD Z (aa1 O (i:=0) oc) ?_);refine I ?_;refine cl BX (hy _) ?_;rintro _ _ Jx rfl;have⟨O,A1,A2,Ab,Ad,qr⟩:=kW Jx.2 O A1 A2 Ab Ad qr;refine al ap (λ_ K2 Ne=>?_);have⟨O,A1,A2,Ab,Ad,qr⟩:=kW K2.2 O A1 A2 Ab Ad qr;refine SA Ne (λT2 X2 Af=>?_);have⟨O,A1,A2,Ab,Ad,qr,_⟩:=Ck X2 O A1 A2 Ab Ad qr;refine I ?_;refine bY 12 ?_;refine sf ?_
 refine aF (V:=.agg #[S l1,S l2]) (λ_ _ _ _=>?_) ?_;refine cl xH (hl _) ?_;rintro _ _ F2 rfl;have S1:=F2.2;refine I ?_;exact fs ⟨S1,rfl⟩;refine sf ?_;refine aF (V:=.agg #[S g1,S g2]) (λ_ _ _ _=>?_) ?_;refine cl ms (hg _) ?_;rintro _ _ W3 rfl;have T4:=W3.2;refine I ?_;exact fs ⟨T4,rfl⟩;refine bl (λ_ _ _ _=>by refine ac (aV (vs:=[(0,.agg #[S l1,S l2]),(1,.agg #[S g1,S g2])]) (cells:=#[S l1,S l2,S g1,S g2]) (pl:=[(0,2),(2,2)]) aJ ap oc Z oc ?_);refine I ?_;exact cz) ?_;refine eU (λv F4=>∃b:Nat,v=pT b/\T2.heap.size<=b/\au F4 b 33 #[S [],S [],S [],S []]) (hs:=λ_ _ _ k ⟨b,e,l,h⟩=>⟨b,e,l,h.ext k⟩) (λ_ _ W2 _=>?_) ?_;refine al ap (λ_ Kp T3=>?_);have F3:=Kp.2;refine I ?_;exact fs ⟨F3,⟨_,rfl,(by have:=bz W2;omega),T3⟩⟩;refine sf ?_;intro _ _ E1 F6;have⟨O,A1,A2,Ab,Ad⟩:=dY E1.2 O A1 A2 Ab Ad;have⟨Af,qr⟩:=bD E1.2 Af qr;obtain⟨ny,As,_,EE⟩:=(F6 11 11 Z Z);have Z0:=bt EE;refine SA EE (λ_ od Am=>?_);have⟨O,A1,A2,Ab,Ad⟩:=jv od O A1 A2 Ab Ad;have⟨Af,qr,_⟩:=ks od Af qr;refine I ?_;refine ac (ak (b:=w.heap.size) (o:=0) (off:=10) (oo:=10) aP Z Z aM Z Z ?_);refine I ?_
 refine ac (ak (b:=w.heap.size) (o:=0) (off:=12) (oo:=12) aP Z Z aM Z Z ?_);refine I ?_;refine cl lC (hA _) ?_;rintro _ _ E7 rfl;have⟨O,A1,A2,Ab,Ad⟩:=dY E7.2 O A1 A2 Ab Ad;have⟨Af,Am,qr⟩:=bC E7.2 Af Am qr;refine cl fg (hW _) ?_;rintro _ _ E0 rfl;have⟨O,A1,A2,Ab,Ad⟩:=dY E0.2 O A1 A2 Ab Ad;have⟨Af,Am,qr⟩:=bC E0.2 Af Am qr;refine cl tW (hD _) ?_;rintro _ _ Ek rfl;have⟨O,A1,A2,Ab,Ad⟩:=dY Ek.2 O A1 A2 Ab Ad;have⟨Af,Am,qr⟩:=bC Ek.2 Af Am qr;refine al aQ (λ_ Ay F7=>?_);have⟨O,A1,A2,Ab,Ad⟩:=dY Ay.2 O A1 A2 Ab Ad;have⟨Af,Am,qr⟩:=bC Ay.2 Af Am qr;refine SA F7 (λ_ E9 Ao=>?_);have⟨O,A1,A2,Ab,Ad⟩:=jv E9 O A1 A2 Ab Ad;have⟨Af,Am,qr,_⟩:=mD E9 Af Am qr;refine I ?_;refine cl gR (hL1 _) ?_;rintro _ _ EP rfl;have⟨O,A1,A2,Ab,Ad⟩:=dY EP.2 O A1 A2 Ab Ad;have⟨Af,Am,Ao,qr⟩:=bW EP.2 Af Am Ao qr;refine I ?_;refine cl gR (hL2 _) ?_;rintro _ _ E4 rfl;have⟨O,A1,A2,Ab,Ad⟩:=dY E4.2 O A1 A2 Ab Ad;have⟨Af,Am,Ao,qr⟩:=bW E4.2 Af Am Ao qr;refine I ?_;rcases qa4 d1 with lr|lr;refine I ?_;(try refine ac (ar (cs:=[S l1,S l2,S g1,S g2]) (b:=ny) (o:=0) aJ Z ay As (aa1 Am (i:=0) Z) ?_));refine SA Ab (λ_ Ax TT=>?_);have⟨O,A1,A2,Ad,Af⟩:=jv Ax O A1 A2 Ad Af;have⟨Am,Ao⟩:=eR Ax Am Ao;have qr:=bB Ax qr;refine I ?_;refine aI (v:=.agg #[S l1,S l2,S g1,S g2]) (cF  rfl ?_) qr (hT (Or.inl lr));refine ag (t:=8) (cs:=[S l1,S l2,S g1,S g2]) (b:=Av.heap.size) (o:=0) aJ Z ay ?_ ?_;exact Z;exact aa1 TT (i:=0) Z;refine I ?_;rcases qa4 d2 with apc|apc;refine I ?_;(try refine ac (ar (cs:=[S l1,S l2,S g1,S g2]) (b:=ny) (o:=0) aJ Z ay As (aa1 Am (i:=0) Z) ?_));refine SA Ab (λ_ Ap L2=>?_);have⟨O,A1⟩:=eR Ap O A1;have A2:=pb Ap A2
 have⟨Ad,Af,Am,Ao⟩:=wm Ap Ad Af Am Ao;have qr:=bB Ap qr;refine I ?_;refine aI (v:=.agg #[S l1,S l2,S g1,S g2]) (cF  rfl ?_) qr (hT (Or.inr apc));refine ag (t:=8) (cs:=[S l1,S l2,S g1,S g2]) (b:=Av.heap.size) (o:=0) aJ Z ay ?_ ?_;exact Z;exact aa1 L2 (i:=0) Z;refine I ?_;refine bY 7 ?_;refine sf ?_;refine bl (λ_ _ Wa _=>by have O:=be Wa O;refine ac (ar (cs:=[S t1,S t2,S t3,S t4,S t5,S t6,S kaA,S t8,S t9,S t10,S t11,S WD,S t13,S t14]) (b:=w.heap.size) (o:=0) aP Z cD Z (aa1 O (i:=0) oc) ?_);refine I ?_;exact cz) ?_;refine sf ?_;refine aF (V:=.agg #[S z1,S z2,S z3,S z4]) (λ_ _ _ _=>?_) ?_;refine cl BX (hC _) ?_;rintro _ _ G4 rfl;have No:=G4.2;refine I ?_;exact fs ⟨No,rfl⟩;refine bl (λ_ _ _ _=>by refine ac (lk Z ?_);refine I ?_;exact cz) ?_;refine sf ?_;intro _ _ F1 _;have⟨O,A1,A2,Ab,Ad⟩:=dY F1.2 O A1 A2 Ab Ad;have⟨Af,Am,Ao,qr⟩:=bW F1.2 Af Am Ao qr;refine cl ms (hg2 _) ?_;rintro _ _ EW rfl;have⟨O,A1,A2,Ab,Ad⟩:=dY EW.2 O A1 A2 Ab Ad;have⟨Af,Am,Ao,qr⟩:=bW EW.2 Af Am Ao qr;refine I ?_;refine SA Am (λ_ Aw Ar=>?_);have⟨O,A1,A2,Ab,Ad⟩:=jv Aw O A1 A2 Ab Ad;have⟨Af,Ao⟩:=eR Aw Af Ao;have qr:=bB Aw qr;refine I ?_
 (try refine ac (ar (cs:=[S l1,S l2,S k1,S k2]) (b:=ny) (o:=0) aJ Z ay As (aa1 Ar (i:=0) Z) ?_));refine SA Ab (λ_ Aq N1=>?_);have⟨O,A1,A2,Ad,Af⟩:=jv Aq O A1 A2 Ad Af;have⟨Ar,Ao⟩:=eR Aq Ar Ao;have qr:=bB Aq qr;refine I ?_;refine aI (v:=.agg #[S l1,S l2,S k1,S k2]) (cF  rfl ?_) qr (hF lr apc);refine ag (t:=8) (cs:=[S l1,S l2,S k1,S k2]) (b:=Av.heap.size) (o:=0) aJ Z ay ?_ ?_;exact Z;exact aa1 N1 (i:=0) Z
def De (h1:1<=pl)(h12:pl<=12)(n1:1<=n)(n64:n<=64):
 CL 56 #[.int .i64 pl,.int .i64 n] w (aC w λv w'=>v=.tuple #[.bool true,.bool (decide (1<(n:Int)))]):=by
 refine aE func56 Z (I ?_);exact bN (t:=4) (u:=5) (v1:=.bool (decide ((n:Int)<=64))) (v2:=.bool (decide (1<(n:Int)))) Z (aa2 _) (by rw[decide_eq_true (show(n:Int)<=64 by omega)]) Z Z
theorem si {p:Int}(hb:¬(1<=p/\p<=12/\1<=c/\c<=64)):
 CL 56 #[.int .i64 p,.int .i64 c] w (aC w λv w'=>v=.tuple #[.bool false,.bool (decide (1<c))]):=by
 refine aE func56 rfl ?_;refine I ?_;by_cases cf:1<=p;by_cases cm:p<=12;by_cases cr:1<=c;refine I ?_;exact bN (t:=4) (u:=5) (v1:=.bool (decide (c<=64))) (v2:=.bool (decide (1<c))) rfl (aa2 _) (by first|rfl|rw[decide_eq_false (show¬c<=64 by omega)]) rfl rfl;refine I ?_;exact bN (t:=4) (u:=5) (v1:=.bool false) (v2:=.bool (decide (1<c))) rfl (aa2 _) (by first|rfl|rw[decide_eq_false (show¬c<=64 by omega)]) rfl rfl;refine I ?_;exact bN (t:=4) (u:=5) (v1:=.bool false) (v2:=.bool (decide (1<c))) rfl (aa2 _) (by first|rfl|rw[decide_eq_false (show¬c<=64 by omega)]) rfl rfl;refine I ?_;exact bN (t:=4) (u:=5) (v1:=.bool false) (v2:=.bool (decide (1<c))) rfl (aa2 _) (by first|rfl|rw[decide_eq_false (show¬c<=64 by omega)]) rfl rfl
def Df {kaA WD:List UInt8}(hS0:∀W,CL 105 #[.agg #[S t1,S t2]] W (aC W λv _=>∃nb:Bool,v=.tuple #[.bool true,.bool nb]))(hS1:∀W,CL 105 #[.agg #[S t3,S t4]] W (aC W λv _=>∃nb:Bool,v=.tuple #[.bool true,.bool nb]))(hS2:∀W,CL 105 #[.agg #[S t5,S t6]] W (aC W λv _=>∃nb:Bool,v=.tuple #[.bool true,.bool nb]))(hS3:∀W,CL 105 #[.agg #[S kaA,S t8]] W (aC W λv _=>∃nb:Bool,v=.tuple #[.bool true,.bool nb]))(hS4:∀W,CL 105 #[.agg #[S t9,S t10]] W (aC W λv _=>∃nb:Bool,v=.tuple #[.bool true,.bool nb]))(hS5:∀W,CL 105 #[.agg #[S t11,S WD]] W (aC W λv _=>∃nb:Bool,v=.tuple #[.bool true,.bool nb]))(hS6:∀W,CL 105 #[.agg #[S t13,S t14]] W (aC W λv _=>∃nb:Bool,v=.tuple #[.bool true,.bool nb]))(hW:CR 58 #[.int .i64 (0)] (.agg #[S o1,S o2]))(hL0:CR 21 #[.agg #[S o1,S o2],.agg #[S t3,S t4]] (.tuple #[.bool true,.bool e0]))(hL1:CR 21 #[.agg #[S o1,S o2],.agg #[S t5,S t6]] (.tuple #[.bool true,.bool e1]))(hL2:CR 21 #[.agg #[S kaA,S t8],.agg #[S t9,S t10]] (.tuple #[.bool true,.bool e2]))(hL3:CR 21 #[.agg #[S t11,S WD],.agg #[S t13,S t14]] (.tuple #[.bool true,.bool e3])):
 CL 57 #[.agg #[S t1,S t2,S t3,S t4,S t5,S t6,S kaA,S t8,S t9,S t10,S t11,S WD,S t13,S t14]] w (aC w λv w'=>v=.bool true):=by
 refine aE func57 Z (I ?_);refine bx (λA2 F3 qr=>?_);have O:=F3.2;refine I ?_;refine ac (ak (b:=w.heap.size) (o:=0) (off:=0) (oo:=0) aP Z Z aM Z Z ?_);refine I ?_;refine ac (ak (b:=w.heap.size) (o:=0) (off:=2) (oo:=2) aP Z Z aM Z Z ?_);refine I ?_;refine ac (ak (b:=w.heap.size) (o:=0) (off:=4) (oo:=4) aP Z Z aM Z Z ?_);refine I ?_;refine ac (ak (b:=w.heap.size) (o:=0) (off:=6) (oo:=6) aP Z Z aM Z Z ?_);refine I ?_;refine ac (ak (b:=w.heap.size) (o:=0) (off:=8) (oo:=8) aP Z Z aM Z Z ?_);refine I ?_;refine ac (ak (b:=w.heap.size) (o:=0) (off:=10) (oo:=10) aP Z Z aM Z Z ?_);refine I ?_;refine ac (ak (b:=w.heap.size) (o:=0) (off:=12) (oo:=12) aP Z Z aM Z Z ?_);refine I ?_;refine ac (je (vs:=[(0,.agg #[S t1,S t2]),(1,.agg #[S t3,S t4]),(2,.agg #[S t5,S t6]),(3,.agg #[S kaA,S t8]),(4,.agg #[S t9,S t10]),(5,.agg #[S t11,S WD]),(6,.agg #[S t13,S t14])]) (cells:=#[S t1,S t2,S t3,S t4,S t5,S t6,S kaA,S t8,S t9,S t10,S t11,S WD,S t13,S t14]) kS aQ Z dc dc oc (λ_ EE A1=>?_));have⟨qr,O⟩:=bD EE.2 qr O;refine I ?_;refine Gr 8 (I ?_)
 refine ac (ah (A:=some ⟨A2.heap.size,0,none⟩) (bk:=A2.heap.size) (o:=0) (m:=7) (c:=7) (i:=0) (oo:=0) kS aM Z Z Z U Z ?_);refine I ?_;refine al aQ (λ_ L2 F2=>?_);have⟨qr,A1,O⟩:=bC L2.2 qr A1 O;refine SA F2 (λ_ E4 _=>?_);have⟨qr,A1,O,_⟩:=mD E4 qr A1 O;refine I ?_;refine cl mr (hS0 _) ?_;rintro _ _ G3 ⟨ny,rfl⟩;have⟨qr,A1,O⟩:=bC G3.2 qr A1 O;refine I ?_;refine ac (bb (a:=0) (b:=1) (c:=1) Z Z L7 Z ?_);refine I ?_;refine l6 (I ?_);refine ac (ah (A:=some ⟨A2.heap.size,0,none⟩) (bk:=A2.heap.size) (o:=0) (m:=7) (c:=7) (i:=1) (oo:=2) kS aM Z Z Z U Z ?_);refine I ?_;refine al aQ (λ_ od F6=>?_);have⟨qr,A1,O⟩:=bC od.2 qr A1 O;refine SA F6 (λ_ Af _=>?_);have⟨qr,A1,O,_⟩:=mD Af qr A1 O;refine I ?_;refine cl mr (hS1 _) ?_;rintro _ _ E7 ⟨T3,rfl⟩;have⟨qr,A1,O⟩:=bC E7.2 qr A1 O;refine I ?_;refine ac (bb (a:=1) (b:=1) (c:=2) Z Z L7 Z ?_);refine I ?_;refine l6 (I ?_);refine ac (ah (A:=some ⟨A2.heap.size,0,none⟩) (bk:=A2.heap.size) (o:=0) (m:=7) (c:=7) (i:=2) (oo:=4) kS aM Z Z Z U Z ?_);refine I ?_;refine al aQ (λ_ K2 F5=>?_);have⟨qr,A1,O⟩:=bC K2.2 qr A1 O;refine SA F5 (λ_ Ad _=>?_);have⟨qr,A1,O,_⟩:=mD Ad qr A1 O;refine I ?_;refine cl mr (hS2 _) ?_
 rintro _ _ F4 ⟨T2,rfl⟩;have⟨qr,A1,O⟩:=bC F4.2 qr A1 O;refine I ?_;refine ac (bb (a:=2) (b:=1) (c:=3) Z Z L7 Z ?_);refine I ?_;refine l6 (I ?_);refine ac (ah (A:=some ⟨A2.heap.size,0,none⟩) (bk:=A2.heap.size) (o:=0) (m:=7) (c:=7) (i:=3) (oo:=6) kS aM Z Z Z U Z ?_);refine I ?_;refine al aQ (λ_ wr Am=>?_);have⟨qr,A1,O⟩:=bC wr.2 qr A1 O;refine SA Am (λ_ F8 _=>?_);have⟨qr,A1,O,_⟩:=mD F8 qr A1 O;refine I ?_;refine cl mr (hS3 _) ?_;rintro _ _ Ek ⟨R1,rfl⟩;have⟨qr,A1,O⟩:=bC Ek.2 qr A1 O;refine I ?_;refine ac (bb (a:=3) (b:=1) (c:=4) Z Z L7 Z ?_);refine I ?_;refine l6 (I ?_);refine ac (ah (A:=some ⟨A2.heap.size,0,none⟩) (bk:=A2.heap.size) (o:=0) (m:=7) (c:=7) (i:=4) (oo:=8) kS aM Z Z Z U Z ?_);refine I ?_;refine al aQ (λ_ E9 Ap=>?_);have⟨qr,A1,O⟩:=bC E9.2 qr A1 O;refine SA Ap (λ_ F1 _=>?_);have⟨qr,A1,O,_⟩:=mD F1 qr A1 O;refine I ?_;refine cl mr (hS4 _) ?_;rintro _ _ Ne ⟨S1,rfl⟩;have⟨qr,A1,O⟩:=bC Ne.2 qr A1 O;refine I ?_;refine ac (bb (a:=4) (b:=1) (c:=5) Z Z L7 Z ?_);refine I ?_;refine l6 (I ?_);refine ac (ah (A:=some ⟨A2.heap.size,0,none⟩) (bk:=A2.heap.size) (o:=0) (m:=7) (c:=7) (i:=5) (oo:=10) kS aM Z Z Z U Z ?_)
 refine I ?_;refine al aQ (λ_ Kp Aq=>?_);have⟨qr,A1,O⟩:=bC Kp.2 qr A1 O;refine SA Aq (λ_ N1 _=>?_);have⟨qr,A1,O,_⟩:=mD N1 qr A1 O;refine I ?_;refine cl mr (hS5 _) ?_;rintro _ _ Ar ⟨TT,rfl⟩;have⟨qr,A1,O⟩:=bC Ar.2 qr A1 O;refine I ?_;refine ac (bb (a:=5) (b:=1) (c:=6) Z Z L7 Z ?_);refine I ?_;refine l6 (I ?_);refine ac (ah (A:=some ⟨A2.heap.size,0,none⟩) (bk:=A2.heap.size) (o:=0) (m:=7) (c:=7) (i:=6) (oo:=12) kS aM Z Z Z U Z ?_);refine I ?_;refine al aQ (λ_ G4 F7=>?_);have⟨qr,A1,O⟩:=bC G4.2 qr A1 O;refine SA F7 (λ_ Ab _=>?_);have⟨qr,A1⟩:=eR Ab qr A1;have O:=bB Ab O;refine I ?_;refine cl mr (hS6 _) ?_;rintro _ _ Ix ⟨T4,rfl⟩;have⟨qr,O⟩:=bD Ix.2 qr O;refine I ?_;refine ac (bb (a:=6) (b:=1) (c:=7) Z Z L7 Z ?_);refine I ?_;refine l6 (I ?_);refine bY 8 ?_;refine aF (V:=.agg #[S o1,S o2]) (λ_ _ _ _=>?_) ?_;refine cl fg (hW _) ?_;rintro _ _ Jx rfl;have E0:=Jx.2;refine I ?_;exact fs ⟨E0,rfl⟩;refine bl (λ_ _ _ _=>by refine ac (ak (b:=w.heap.size) (o:=0) (off:=2) (oo:=2) aP Z Z aM Z Z ?_);refine I ?_;exact cz) ?_;refine sf ?_;refine aF (V:=.tuple #[.bool true,.bool e0]) (λ_ _ _ _=>?_) ?_;refine cl gR (hL0 _) ?_
 rintro _ _ Av rfl;have EW:=Av.2;refine I ?_;exact fs ⟨EW,rfl⟩;refine sf ?_;intro _ _ Ax _;have⟨qr,O⟩:=bD Ax.2 qr O;refine I ?_;refine bY 8 ?_;refine aF (V:=.agg #[S o1,S o2]) (λ_ _ _ _=>?_) ?_;refine cl fg (hW _) ?_;rintro _ _ Aw rfl;have E1:=Aw.2;refine I ?_;exact fs ⟨E1,rfl⟩;refine bl (λ_ _ _ _=>by refine ac (ak (b:=w.heap.size) (o:=0) (off:=4) (oo:=4) aP Z Z aM Z Z ?_);refine I ?_;exact cz) ?_;refine sf ?_;refine aF (V:=.tuple #[.bool true,.bool e1]) (λ_ _ _ _=>?_) ?_;refine cl gR (hL1 _) ?_;rintro _ _ As rfl;have Ay:=As.2;refine I ?_;exact fs ⟨Ay,rfl⟩;refine sf ?_;intro _ _ Ao _;have⟨qr,O⟩:=bD Ao.2 qr O;refine I ?_;refine ac (ak (b:=w.heap.size) (o:=0) (off:=6) (oo:=6) aP Z Z aM Z Z ?_);refine I ?_;refine ac (ak (b:=w.heap.size) (o:=0) (off:=8) (oo:=8) aP Z Z aM Z Z ?_);refine I ?_;refine cl gR (hL2 _) ?_;rintro _ _ EP rfl;have⟨qr,O⟩:=bD EP.2 qr O;refine I ?_;refine ac (ak (b:=w.heap.size) (o:=0) (off:=10) (oo:=10) aP Z Z aM Z Z ?_);refine I ?_;refine ac (ak (b:=w.heap.size) (o:=0) (off:=12) (oo:=12) aP Z Z aM Z Z ?_);refine I ?_;refine cl gR (hL3 _) ?_;rintro _ _ No rfl;have O:=xt O No.2;refine I ?_
 exact ax (t:=2) (v:=.bool true) Z O Z Z
def sj (h:p:=by kernel_rfl):p:=h
def oe (h:In64 a:=by unfold In64;omega):In64 a:=h
def mP (ib s0 s1 s2:Bool):Nat:=bif ib then(bif s2 then 1 else 0)else(bif s0 then 1 else 0)+(bif s1 then 1 else 0)
def Ye (ib s0 s1 s2:Bool)(a b c:List Value):List Value:=bif ib then(bif s2 then c else[])else(bif s0 then a else[])++(bif s1 then b else[])
def gv {b:Nat}:(Value.slice none 0 0).ownBlock≠some b:=λh=>by cases h
def WO (W:World)(lo:Nat)(A:Option Addr)(m:Nat)(cs:List Value):Prop:=0<m->∃g cur,A=some ⟨g,0,none⟩/\lo<=g/\au W g 33 cur/\cur.toList.take (m*4)=cs
def nI {v:Value}(h:W.ownsRow lo 33 4 v m cs):∃A c,v=.slice A m c/\m<=c/\WO W lo A m cs:=by
 obtain⟨hl,⟨rfl,rfl⟩|⟨g,cap,qr,rfl,O,A1,hc,hm,hs,ht⟩⟩:=h
 · exact⟨none,0,rfl,qa0 _,λh=>absurd h dc⟩
 · exact⟨_,cap,rfl,hc,λ_=>⟨g,qr,rfl,O,A1,ht⟩⟩
def p7 {cur:Array Value}(hb:au W g 33 cur)(ht:cur.toList.take (m*4)=cs)(hp:(cs.drop (k*4+o)).take 2=l):∀j u,l[j]?=some u->W.cell? ⟨g,0+k*4+o+j,none⟩=some u:=by
 intro j u hu
 rw[<-hp,List.getElem?_take]at hu
 split at hu
 · rw[List.getElem?_drop,<-ht,List.getElem?_take]at hu
   split at hu
   · have:au W g 33 cur:=hb
     refine aa9 this ?_
     rw[Array.getElem?_toList]at hu
     rw[show 0+k*4+o+j=k*4+o+j by omega];exact hu
   · cases hu
 · cases hu
set_option maxRecDepth 100000 in
def Dh {kaA WD f3 f4 f5 f6 f7 Wf F1 F2 F3 F4 F5 F6 F7 F8:List UInt8}{ib s0 s1 s2:Bool}(hi:i<=64)(hW:CR 58 #[.int .i64 n] (.agg #[S n1,S n2]))(h6:CR 58 #[.int .i64 6] (.agg #[S x1,S x2]))(hf:CR 58 #[.int .i64 (12*(i:Int))] (.agg #[S f1,S f2]))(hfd:CR 110 #[.agg #[S f1,S f2],.agg #[S n1,S n2]] (.agg #[S f3,S f4]))(hfs:CR 20 #[.agg #[S f3,S f4],.agg #[S x1,S x2]] (.agg #[S f5,S f6]))(hfm:CR 64 #[.agg #[S t3,S t4],.agg #[S f5,S f6]] (.agg #[S f7,S Wf]))(hfa:CR 19 #[.agg #[S t1,S t2],.agg #[S f7,S Wf]] (.agg #[S a1,S a2]))(hF:CR 58 #[.int .i64 (12*((i:Int)+1))] (.agg #[S F1,S F2]))(hFd:CR 110 #[.agg #[S F1,S F2],.agg #[S n1,S n2]] (.agg #[S F3,S F4]))(hFs:CR 20 #[.agg #[S F3,S F4],.agg #[S x1,S x2]] (.agg #[S F5,S F6]))(hFm:CR 64 #[.agg #[S t3,S t4],.agg #[S F5,S F6]] (.agg #[S F7,S F8]))(hFa:CR 19 #[.agg #[S t1,S t2],.agg #[S F7,S F8]] (.agg #[S b1,S b2]))(hc:CR 106 #[.agg #[S b1,S b2],.agg #[S kaA,S t8]] (.agg #[S c1,S c2]))(hd:CR 63 #[.agg #[S a1,S a2],.agg #[S t9,S t10]] (.agg #[S d1,S d2]))(hp:CR 63 #[.agg #[S a1,S a2],.agg #[S kaA,S t8]] (.agg #[S p1,S p2]))(hq:CR 106 #[.agg #[S b1,S b2],.agg #[S t9,S t10]] (.agg #[S q1,S q2]))(hl0:CR 21 #[.agg #[S a1,S a2],.agg #[S c1,S c2]] (.tuple #[.bool s0,.bool e0]))(hl1:CR 21 #[.agg #[S d1,S d2],.agg #[S b1,S b2]] (.tuple #[.bool s1,.bool e1]))(hl2:CR 21 #[.agg #[S p1,S p2],.agg #[S q1,S q2]] (.tuple #[.bool s2,.bool e2])):
 CL 60 #[.agg #[S t1,S t2,S t3,S t4,S t5,S t6,S kaA,S t8,S t9,S t10,S t11,S WD,S t13,S t14],.int .i64 i,.int .i64 n,.bool ib] w (aC w λv w'=>∃A c,v=.slice A (mP ib s0 s1 s2) c/\mP ib s0 s1 s2<=c/\WO w' w.heap.size A (mP ib s0 s1 s2) (Ye ib s0 s1 s2 [S a1,S a2,S c1,S c2] [S d1,S d2,S b1,S b2] [S p1,S p2,S q1,S q2])):=by
 refine aE func60 Z (I ?_);refine bx (λ_ Zl qr=>?_);have O:=Zl.2;refine I ?_;refine cl fg (hW _) ?_;rintro _ Ne ZD rfl;have⟨qr,O⟩:=bD ZD.2 qr O;refine al aQ (λ_ ask ZY=>?_);have⟨qr,O⟩:=bD ask.2 qr O;refine SA ZY (λZt W1 A1=>?_);have⟨qr,O,_⟩:=ks W1 qr O;refine I ?_;refine bY 14 ?_;refine bl (λ_ _ _ _=>by refine ac (ak (b:=w.heap.size) (o:=0) (off:=0) (oo:=0) aP Z Z aM Z Z ?_);refine I ?_;exact cz) ?_;refine sf ?_;refine bl (λ_ _ _ _=>by refine ac (ak (b:=w.heap.size) (o:=0) (off:=2) (oo:=2) aP Z Z aM Z Z ?_);refine I ?_;exact cz) ?_;refine sf ?_;refine bl (λ_ _ _ _=>by refine ac (l9 (a:=12) (b:=(i:Int)) (c:=12*(i:Int)) Z Z oe Z ?_);refine I ?_;exact cz) ?_;refine aF (V:=.agg #[S f1,S f2]) (λ_ _ _ _=>?_) ?_;refine cl fg (hf _) ?_;rintro _ _ Zs rfl;have ZU:=Zs.2;refine I ?_;exact fs ⟨ZU,rfl⟩;refine sf ?_;refine aF (V:=.agg #[S f3,S f4]) (λ_ _ _ _=>?_) ?_;refine cl tW (hfd _) ?_;rintro _ _ ZE rfl;have a9:=ZE.2;refine I ?_;exact fs ⟨a9,rfl⟩;refine aF (V:=.agg #[S x1,S x2]) (λ_ _ _ _=>?_) ?_;refine cl fg (h6 _) ?_;rintro _ _ ZH rfl;have a8:=ZH.2;refine I ?_;exact fs ⟨a8,rfl⟩
 refine aF (V:=.agg #[S f5,S f6]) (λ_ _ _ _=>?_) ?_;refine cl kp (hfs _) ?_;rintro _ _ Zz rfl;have Z0:=Zz.2;refine I ?_;exact fs ⟨Z0,rfl⟩;refine aF (V:=.agg #[S f7,S Wf]) (λ_ _ _ _=>?_) ?_;refine cl xG (hfm _) ?_;rintro _ _ W0 rfl;have Z5:=W0.2;refine I ?_;exact fs ⟨Z5,rfl⟩;refine aF (V:=.agg #[S a1,S a2]) (λ_ _ _ _=>?_) ?_;refine cl lC (hfa _) ?_;rintro _ _ Z2 rfl;have ZQ:=Z2.2;refine I ?_;exact fs ⟨ZQ,rfl⟩;refine eU (λv E7=>∃b:Nat,v=pT b/\Zt.heap.size<=b/\au E7 b 25 #[S [],S []]) (hs:=λ_ _ _ k ⟨b,e,l,h⟩=>⟨b,e,l,h.ext k⟩) (λ_ _ ZP _=>?_) ?_;refine al aQ (λ_ ZG ZX=>?_);have ZA:=ZG.2;refine I ?_;exact fs ⟨ZA,⟨_,rfl,(by have:=bz ZP;omega),ZX⟩⟩;refine sf ?_;intro _ _ a5 Z6;have⟨qr,A1,O⟩:=bC a5.2 qr A1 O;obtain⟨Ix,_,_,K2⟩:=(Z6 13 10 Z Z);have bc:=bt K2;refine SA K2 (λZV Z9 A2=>?_);have⟨qr,A1,O,_⟩:=mD Z9 qr A1 O;refine I ?_;refine bY 15 ?_;refine bl (λ_ _ _ _=>by refine ac (ak (b:=w.heap.size) (o:=0) (off:=0) (oo:=0) aP Z Z aM Z Z ?_);refine I ?_;exact cz) ?_;refine sf ?_;refine bl (λ_ _ _ _=>by refine ac (ak (b:=w.heap.size) (o:=0) (off:=2) (oo:=2) aP Z Z aM Z Z ?_);refine I ?_;exact cz) ?_;refine sf ?_
 refine bl (λ_ _ _ _=>by refine wl ?_;refine I ?_;exact cz) ?_;refine bl (λ_ _ _ _=>by refine ac (l9 (a:=12) (b:=(i:Int)+1) (c:=12*((i:Int)+1)) Z Z oe Z ?_);refine I ?_;exact cz) ?_;refine aF (V:=.agg #[S F1,S F2]) (λ_ _ _ _=>?_) ?_;refine cl fg (hF _) ?_;rintro _ _ Wa rfl;have T2:=Wa.2;refine I ?_;exact fs ⟨T2,rfl⟩;refine sf ?_;refine aF (V:=.agg #[S F3,S F4]) (λ_ _ _ _=>?_) ?_;refine cl tW (hFd _) ?_;rintro _ _ aH rfl;have ZL:=aH.2;refine I ?_;exact fs ⟨ZL,rfl⟩;refine aF (V:=.agg #[S x1,S x2]) (λ_ _ _ _=>?_) ?_;refine cl fg (h6 _) ?_;rintro _ _ Zu rfl;have T3:=Zu.2;refine I ?_;exact fs ⟨T3,rfl⟩;refine aF (V:=.agg #[S F5,S F6]) (λ_ _ _ _=>?_) ?_;refine cl kp (hFs _) ?_;rintro _ _ ZT rfl;have W3:=ZT.2;refine I ?_;exact fs ⟨W3,rfl⟩;refine aF (V:=.agg #[S F7,S F8]) (λ_ _ _ _=>?_) ?_;refine cl xG (hFm _) ?_;rintro _ _ ZF rfl;have a7:=ZF.2;refine I ?_;exact fs ⟨a7,rfl⟩;refine aF (V:=.agg #[S b1,S b2]) (λ_ _ _ _=>?_) ?_;refine cl lC (hFa _) ?_;rintro _ _ Zy rfl;have ZR:=Zy.2;refine I ?_;exact fs ⟨ZR,rfl⟩
 refine eU (λv E7=>∃b:Nat,v=pT b/\ZV.heap.size<=b/\au E7 b 25 #[S [],S []]) (hs:=λ_ _ _ k ⟨b,e,l,h⟩=>⟨b,e,l,h.ext k⟩) (λ_ _ X2 _=>?_) ?_;refine al aQ (λ_ a0 ZJ=>?_);have Zw:=a0.2;refine I ?_;exact fs ⟨Zw,⟨_,rfl,(by have:=bz X2;omega),ZJ⟩⟩;refine sf ?_;intro _ _ a6 Z8;have⟨qr,A1,A2,O⟩:=bW a6.2 qr A1 A2 O;obtain⟨No,_,_,L2⟩:=(Z8 14 11 Z Z);have cT:=bt L2;refine SA L2 (λ_ Zp Ab=>?_);have⟨qr,A1,A2,O,_⟩:=l7 Zp qr A1 A2 O;refine I ?_;refine bY 12 ?_;refine sf ?_;refine bl (λ_ _ _ _=>by refine ac (ak (b:=w.heap.size) (o:=0) (off:=6) (oo:=6) aP Z Z aM Z Z ?_);refine I ?_;exact cz) ?_;refine sf ?_;refine aF (V:=.agg #[S c1,S c2]) (λ_ _ _ _=>?_) ?_;refine cl xH (hc _) ?_;rintro _ _ Zq rfl;have ZI:=Zq.2;refine I ?_;exact fs ⟨ZI,rfl⟩;refine bl (λ_ _ _ _=>by refine ac (aV (vs:=[(0,.agg #[S a1,S a2]),(1,.agg #[S c1,S c2])]) (cells:=#[S a1,S a2,S c1,S c2]) (pl:=[(0,2),(2,2)]) aJ ap sj Z sj ?_);refine I ?_;exact cz) ?_;refine sf ?_;refine bl (λ_ _ _ _=>by refine ac (ak (b:=w.heap.size) (o:=0) (off:=8) (oo:=8) aP Z Z aM Z Z ?_);refine I ?_;exact cz) ?_;refine sf ?_;refine aF (V:=.agg #[S d1,S d2]) (λ_ _ _ _=>?_) ?_
 refine cl ms (hd _) ?_;rintro _ _ ZN rfl;have Zk:=ZN.2;refine I ?_;exact fs ⟨Zk,rfl⟩;refine sf ?_;refine bl (λ_ _ _ _=>by refine ac (aV (vs:=[(0,.agg #[S d1,S d2]),(1,.agg #[S b1,S b2])]) (cells:=#[S d1,S d2,S b1,S b2]) (pl:=[(0,2),(2,2)]) aJ ap sj Z sj ?_);refine I ?_;exact cz) ?_;refine sf ?_;intro _ Af ZM _;have⟨qr,A1,A2,Ab,O⟩:=eE ZM.2 qr A1 A2 Ab O;refine ac (je (vs:=[(0,.agg #[S a1,S a2,S c1,S c2]),(1,.agg #[S d1,S d2,S b1,S b2])]) (cells:=#[S a1,S a2,S c1,S c2,S d1,S d2,S b1,S b2]) gE ap Z dc dc sj (λat2 ZZ Ad=>?_));have⟨qr,A1,A2,Ab,O⟩:=eE ZZ.2 qr A1 A2 Ab O;refine I ?_;rcases qa4 ib with lp|lp;refine I ?_;refine bY 7 ?_;refine sf ?_;refine bl (λ_ _ _ _=>by refine ac (ak (b:=w.heap.size) (o:=0) (off:=6) (oo:=6) aP Z Z aM Z Z ?_);refine I ?_;exact cz) ?_;refine sf ?_;refine aF (V:=.agg #[S p1,S p2]) (λ_ _ _ _=>?_) ?_;refine cl ms (hp _) ?_;rintro _ _ ab rfl;have at3:=ab.2;refine I ?_;exact fs ⟨at3,rfl⟩;refine sf ?_;refine bl (λ_ _ _ _=>by refine ac (ak (b:=w.heap.size) (o:=0) (off:=8) (oo:=8) aP Z Z aM Z Z ?_);refine I ?_;exact cz) ?_;refine sf ?_;intro _ _ Zr _;have⟨qr,A1,A2,Ab,Ad,O⟩:=kW Zr.2 qr A1 A2 Ab Ad O;refine cl xH (hq _) ?_
 rintro _ Aq Zv rfl;have⟨qr,A1,A2,Ab,Ad,O⟩:=kW Zv.2 qr A1 A2 Ab Ad O;refine ac (aV (vs:=[(0,.agg #[S p1,S p2]),(1,.agg #[S q1,S q2])]) (cells:=#[S p1,S p2,S q1,S q2]) (pl:=[(0,2),(2,2)]) aJ ap sj Z sj ?_);refine ac (je (vs:=[(0,.agg #[S p1,S p2,S q1,S q2])]) (cells:=#[S p1,S p2,S q1,S q2]) gE ap Z dc dc sj (λat4 ZW Av=>?_));have⟨qr,A1,A2,Ab,Ad,O⟩:=kW ZW.2 qr A1 A2 Ab Ad O;refine I ?_;have ad:(Value.slice none 0 0).ownBlock≠some (w.heap.size):=gv;have bd:(Value.slice none 0 0).ownBlock≠some (Ne.heap.size):=gv;have bH:(Value.slice none 0 0).ownBlock≠some (Ix):=gv;have b7:(Value.slice none 0 0).ownBlock≠some (No):=gv;have b6:(Value.slice none 0 0).ownBlock≠some (Af.heap.size):=gv;have ca:(Value.slice none 0 0).ownBlock≠some (Aq.heap.size):=gv;have Am:World.ownsRow at4 w.heap.size 33 4 (.slice none 0 0) 0 []:=iO;refine Gr 2 (I ?_);refine bY 15 ?_;refine sf ?_;refine bl (λ_ _ _ _=>by refine ac (ah (A:=some ⟨Aq.heap.size,0,none⟩) (bk:=Aq.heap.size) (o:=0) (m:=1) (c:=1) (i:=0) (oo:=0) gE ay Z Z Z U Z ?_);refine I ?_;exact cz) ?_;refine sf ?_
 refine bl (λ_ _ _ _=>by refine ac (ah (A:=some ⟨Aq.heap.size,0,none⟩) (bk:=Aq.heap.size) (o:=0) (m:=1) (c:=1) (i:=0) (oo:=0) gE ay Z Z Z U Z ?_);refine I ?_;exact cz) ?_;refine sf ?_;refine aF (V:=.tuple #[.bool s2,.bool e2]) (λ_ _ _ _=>?_) ?_;refine cl gR (hl2 _) ?_;rintro _ _ ZC rfl;have a3:=ZC.2;refine I ?_;exact fs ⟨a3,rfl⟩;refine sf ?_;intro _ Z7 E4 _;have⟨qr,A1,A2,Ab,Ad⟩:=dY E4.2 qr A1 A2 Ab Ad;have Av:=be E4.2 Av;have Am:=aX E4.2 Am;have O:=xt O E4.2;refine I ?_;rcases qa4 s2 with aqr|aqr;refine I ?_;refine ac (ah (A:=some ⟨Aq.heap.size,0,none⟩) (bk:=Aq.heap.size) (o:=0) (m:=1) (c:=1) (i:=0) (oo:=0) gE ay Z Z Z U Z ?_);(try refine ac (ar (cs:=[S p1,S p2,S q1,S q2]) (b:=Aq.heap.size) (o:=0) aJ Z ay Z (aa1 Av (i:=0) Z) ?_));refine BS (λ_ E1 _ at8=>?_);have⟨qr,A1,A2,Ab,Ad⟩:=dY E1 qr A1 A2 Ab Ad;have Av:=be E1 Av;have Am:=aX E1 Am;have O:=xt O E1;refine AP Am (aa4 at8) (λE0 at9 R1 ZK _=>?_)
 have O:=dQ Am U U O ZK;rw[List.nil_append]at R1;refine ac (bO (v:=E0) Z ?_);refine I ?_;refine ac (bb (a:=0) (b:=1) (c:=1) Z Z oe Z ?_);refine I ?_;refine l6 (I ?_);refine ac (di (v:=E0) Z ?_);refine ac (bO (v:=E0) Z ?_);refine I ?_;have Ao:World.ownsRow at9 w.heap.size 33 4 E0 1 [S p1,S p2,S q1,S q2]:=R1;exact ax (t:=8) (v:=E0) Z O (by rw[lp,aqr];exact nI Ao) Z;refine I ?_;refine ac (bb (a:=0) (b:=1) (c:=1) Z Z oe Z ?_);refine I ?_;refine l6 (I ?_);have Ao:World.ownsRow Z7 w.heap.size 33 4 (.slice none 0 0) 0 []:=Am;exact ax (t:=8) (v:=.slice none 0 0) Z O (by rw[lp,aqr];exact nI Ao) Z;refine I ?_;have Jx:(Value.slice none 0 0).ownBlock≠some (w.heap.size):=gv;have arr:(Value.slice none 0 0).ownBlock≠some (Ne.heap.size):=gv;have S1:(Value.slice none 0 0).ownBlock≠some (Ix):=gv;have G4:(Value.slice none 0 0).ownBlock≠some (No):=gv;have Kp:(Value.slice none 0 0).ownBlock≠some (Af.heap.size):=gv;have Am:World.ownsRow at2 w.heap.size 33 4 (.slice none 0 0) 0 []:=iO;refine Gr 3 (I ?_);refine bY 15 ?_;refine sf ?_
 refine bl (λ_ _ _ _=>by refine ac (ah (A:=some ⟨Af.heap.size,0,none⟩) (bk:=Af.heap.size) (o:=0) (m:=2) (c:=2) (i:=0) (oo:=0) gE ay Z Z Z U Z ?_);refine I ?_;exact cz) ?_;refine sf ?_;refine bl (λ_ _ _ _=>by refine ac (ah (A:=some ⟨Af.heap.size,0,none⟩) (bk:=Af.heap.size) (o:=0) (m:=2) (c:=2) (i:=0) (oo:=0) gE ay Z Z Z U Z ?_);refine I ?_;exact cz) ?_;refine sf ?_;refine aF (V:=.tuple #[.bool s0,.bool e0]) (λ_ _ _ _=>?_) ?_;refine cl gR (hl0 _) ?_;rintro _ _ aB rfl;have aL:=aB.2;refine I ?_;exact fs ⟨aL,rfl⟩;refine sf ?_;intro _ _ EP _;have⟨qr,A1,A2,Ab,Ad⟩:=dY EP.2 qr A1 A2 Ab Ad;have Am:=aX EP.2 Am;have O:=xt O EP.2;refine I ?_;rcases qa4 s0 with aoo|aoo;refine I ?_;refine ac (ah (A:=some ⟨Af.heap.size,0,none⟩) (bk:=Af.heap.size) (o:=0) (m:=2) (c:=2) (i:=0) (oo:=0) gE ay Z Z Z U Z ?_);(try refine ac (ar (cs:=[S a1,S a2,S c1,S c2]) (b:=Af.heap.size) (o:=0) aJ Z ay Z (aa1 Ad (i:=0) Z) ?_))
 refine BS (λ_ EW _ ZS=>?_);have⟨qr,A1,A2,Ab,Ad⟩:=dY EW qr A1 A2 Ab Ad;have Am:=aX EW Am;have O:=xt O EW;refine AP Am (aa4 ZS) (λAs _ Ap Ar Ay=>?_);have bT:=fo Ay Jx (bt qr);have an:=fo Ay arr (bt A1);have bL:=fo Ay S1 (bt A2);have c8:=fo Ay G4 (bt Ab);have c9:=fo Ay Kp (bt Ad);have qr:=aa0 Ar (λe=>Jx e.symm) qr;have A1:=aa0 Ar (λe=>arr e.symm) A1;have A2:=aa0 Ar (λe=>S1 e.symm) A2;have Ab:=aa0 Ar (λe=>G4 e.symm) Ab;have Ad:=aa0 Ar (λe=>Kp e.symm) Ad;have O:=dQ Am U U O Ar;have b9:=Ar.size;rw[List.nil_append]at Ap;refine ac (bO (v:=As) Z ?_);refine I ?_;refine ac (bb (a:=0) (b:=1) (c:=1) Z Z oe Z ?_);refine I ?_;refine l6 (I ?_);refine bY 15 ?_;refine sf ?_;refine bl (λ_ _ _ _=>by refine ac (ah (A:=some ⟨Af.heap.size,0,none⟩) (bk:=Af.heap.size) (o:=0) (m:=2) (c:=2) (i:=1) (oo:=4) gE ay Z Z Z U Z ?_);refine I ?_;exact cz) ?_;refine sf ?_;refine bl (λ_ _ _ _=>by refine ac (ah (A:=some ⟨Af.heap.size,0,none⟩) (bk:=Af.heap.size) (o:=0) (m:=2) (c:=2) (i:=1) (oo:=4) gE ay Z Z Z U Z ?_);refine I ?_;exact cz) ?_;refine sf ?_;refine aF (V:=.tuple #[.bool s1,.bool e1]) (λ_ _ _ _=>?_) ?_
 refine cl gR (hl1 _) ?_;rintro _ _ ZB rfl;have a4:=ZB.2;refine I ?_;exact fs ⟨a4,rfl⟩;refine sf ?_;intro _ Wb E9 _;have⟨qr,A1,A2,Ab,Ad⟩:=dY E9.2 qr A1 A2 Ab Ad;have Ap:=aX E9.2 Ap;have O:=xt O E9.2;refine I ?_;rcases qa4 s1 with aqu|aqu;refine I ?_;refine ac (di (v:=As) Z ?_);refine I ?_;refine ac (ah (A:=some ⟨Af.heap.size,0,none⟩) (bk:=Af.heap.size) (o:=0) (m:=2) (c:=2) (i:=1) (oo:=4) gE ay Z Z Z U Z ?_);(try refine ac (ar (cs:=[S d1,S d2,S b1,S b2]) (b:=Af.heap.size) (o:=4) aJ Z ay Z (aa1 Ad (i:=4) Z) ?_));refine BS (λ_ EE _ Zm=>?_);have⟨qr,A1,A2,Ab,Ad⟩:=dY EE qr A1 A2 Ab Ad;have Ap:=aX EE Ap;have O:=xt O EE;refine AP Ap (aa4 Zm) (λAx TT T4 Zn _=>?_);have O:=dQ Ap U U O Zn
 refine ac (bO (v:=Ax) Z ?_);refine I ?_;refine ac (bb (a:=1) (b:=1) (c:=2) Z Z oe Z ?_);refine I ?_;refine l6 (I ?_);refine ac (di (v:=Ax) Z ?_);refine ac (bO (v:=Ax) Z ?_);refine I ?_;have Ao:World.ownsRow TT w.heap.size 33 4 Ax 2 [S a1,S a2,S c1,S c2,S d1,S d2,S b1,S b2]:=T4;exact ax (t:=8) (v:=Ax) Z O (by rw[lp,aoo,aqu];exact nI Ao) Z;refine I ?_;refine ac (bb (a:=1) (b:=1) (c:=2) Z Z oe Z ?_);refine I ?_;refine l6 (I ?_);refine ac (di (v:=As) Z ?_);refine ac (bO (v:=As) Z ?_);refine I ?_;have Ao:World.ownsRow Wb w.heap.size 33 4 As 1 [S a1,S a2,S c1,S c2]:=Ap;exact ax (t:=8) (v:=As) Z O (by rw[lp,aoo,aqu];exact nI Ao) Z;refine I ?_;refine ac (bb (a:=0) (b:=1) (c:=1) Z Z oe Z ?_);refine I ?_;refine l6 (I ?_);refine bY 15 ?_;refine sf ?_;refine bl (λ_ _ _ _=>by refine ac (ah (A:=some ⟨Af.heap.size,0,none⟩) (bk:=Af.heap.size) (o:=0) (m:=2) (c:=2) (i:=1) (oo:=4) gE ay Z Z Z U Z ?_);refine I ?_;exact cz) ?_;refine sf ?_
 refine bl (λ_ _ _ _=>by refine ac (ah (A:=some ⟨Af.heap.size,0,none⟩) (bk:=Af.heap.size) (o:=0) (m:=2) (c:=2) (i:=1) (oo:=4) gE ay Z Z Z U Z ?_);refine I ?_;exact cz) ?_;refine sf ?_;refine aF (V:=.tuple #[.bool s1,.bool e1]) (λ_ _ _ _=>?_) ?_;refine cl gR (hl1 _) ?_;rintro _ _ Z1 rfl;have W2:=Z1.2;refine I ?_;exact fs ⟨W2,rfl⟩;refine sf ?_;intro _ ZO Ek _;have⟨qr,A1,A2,Ab,Ad⟩:=dY Ek.2 qr A1 A2 Ab Ad;have Am:=aX Ek.2 Am;have O:=xt O Ek.2;refine I ?_;rcases qa4 s1 with aqx|aqx;refine I ?_;refine ac (ah (A:=some ⟨Af.heap.size,0,none⟩) (bk:=Af.heap.size) (o:=0) (m:=2) (c:=2) (i:=1) (oo:=4) gE ay Z Z Z U Z ?_);(try refine ac (ar (cs:=[S d1,S d2,S b1,S b2]) (b:=Af.heap.size) (o:=4) aJ Z ay Z (aa1 Ad (i:=4) Z) ?_));refine BS (λ_ G3 _ Z3=>?_);have⟨qr,A1,A2,Ab,Ad⟩:=dY G3 qr A1 A2 Ab Ad;have Am:=aX G3 Am;have O:=xt O G3;refine AP Am (aa4 Z3) (λAw Zx N1 Zo _=>?_);have O:=dQ Am U U O Zo;rw[List.nil_append]at N1
 refine ac (bO (v:=Aw) Z ?_);refine I ?_;refine ac (bb (a:=1) (b:=1) (c:=2) Z Z oe Z ?_);refine I ?_;refine l6 (I ?_);refine ac (di (v:=Aw) Z ?_);refine ac (bO (v:=Aw) Z ?_);refine I ?_;have Ao:World.ownsRow Zx w.heap.size 33 4 Aw 1 [S d1,S d2,S b1,S b2]:=N1;exact ax (t:=8) (v:=Aw) Z O (by rw[lp,aoo,aqx];exact nI Ao) Z;refine I ?_;refine ac (bb (a:=1) (b:=1) (c:=2) Z Z oe Z ?_);refine I ?_;refine l6 (I ?_);have Ao:World.ownsRow ZO w.heap.size 33 4 (.slice none 0 0) 0 []:=Am;exact ax (t:=8) (v:=.slice none 0 0) Z O (by rw[lp,aoo,aqx];exact nI Ao) Z
end
section
def bj (g:Nat->Int):Nat->Int
 |0=>0
 |n+1=>bj g n+g n
def jy {g h:Nat->Int}:∀{n:Nat},(∀i,i<n->g i<=h i)->bj g n<=bj h n
 |0,_=>Int.le_refl _
 | n+1,k=>by
   have h1:=jy (n:=n) λi hi=>k i U
   have h2:=k n U
   show bj g n+g n<=bj h n+h n
   omega
def fA {g h:Nat->Int}:∀{n:Nat},(∀i,i<n->g i=h i)->bj g n=bj h n
 |0,_=>rfl
 | n+1,k=>by
   show bj g n+g n=bj h n+h n
   rw[fA (n:=n) λi hi=>k i U,k n U]
def GB (g:Nat->Int):∀n,bj (λi=>g (i+1)-g i) n=g n-g 0
 |0=>by show(0:Int)=g 0-g 0;omega
 | n+1=>by
   show bj (λi=>g (i+1)-g i) n+(g (n+1)-g n)=_
   rw[GB g n];omega
def Fa {g:Nat->Int}(h:∀i,i<n->0<=g i):0<=bj g n:=by
 have h1:=jy (g:=λ_=>0) h
 have h2:∀m,bj (λ_=>(0:Int)) m=0:=by
  intro m
  induction m with
  |zero=>rfl
  |succ m ih=>show bj (λ_=>(0:Int)) m+0=0;rw[ih];rfl
 rw[h2]at h1;exact h1
def rv (g:Nat->Int):∀n,bj g (n+1)=g 0+bj (λi=>g (i+1)) n
 |0=>by show(0:Int)+g 0=g 0+0;omega
 | n+1=>by
   show bj g (n+1)+g (n+1)=g 0+(bj (λi=>g (i+1)) n+g (n+1))
   rw[rv g n];omega
def og (f c:Int->Int)(X Y:Int):Int:=max 0 (f Y-c X)
def oM (f c:Int->Int)(X Y:Int):Int:=max 0 (c Y-f X)
structure Sd where
 f:Int->Int
 c:Int->Int
 fu:Int->Int
 cu:Int->Int
 fl:Int->Int
 cl:Int->Int
 ct:Int
def Sd.chL (s:Sd)(X:Int):Int:=max 0 (s.fu X-s.cl X)
def Sd.chH (s:Sd)(X:Int):Int:=max 0 (s.cu X-s.fl X)
def Sd.bL (s:Sd)(X Y:Int):Int:=min (s.chL X) (s.chL Y)
def Sd.bH (s:Sd)(X Y:Int):Int:=if X<=s.ct/\s.ct<=Y then max (max (s.chH X) (s.chH Y)) (s.chH s.ct)else max (s.chH X) (s.chH Y)
def Sd.tcL (s:Sd)(X Y:Int):Int:=if X<Y then og s.f s.c X Y*s.bL X Y else 0
def Sd.tcH (s:Sd)(X Y:Int):Int:=if X<Y then oM s.f s.c X Y*s.bH X Y else 0
def Sd.tpL (s:Sd)(T X Y:Int):Int:=if X<Y then og s.f s.c X Y*max 0 (T-s.bH X Y)else 0
def Sd.tpH (s:Sd)(T X Y:Int):Int:=if X<Y then oM s.f s.c X Y*(T-s.bL X Y)else 0
def Sd.conL (s:Sd)(E:Nat->Int)(L H:Int)(n:Nat):Int:=bj (λi=>s.tcL (E i) (min (E (i+1)) L)+s.tcL (max (E i) H) (E (i+1))) n
def Sd.conH (s:Sd)(E:Nat->Int)(L H:Int)(n:Nat):Int:=bj (λi=>s.tcH (E i) (min (E (i+1)) L)+s.tcH (max (E i) H) (E (i+1))) n
def Sd.proL (s:Sd)(T:Int)(E:Nat->Int)(L H:Int)(n:Nat):Int:=bj (λi=>s.tpL T (max (E i) L) (min (E (i+1)) H)) n
def Sd.proH (s:Sd)(T:Int)(E:Nat->Int)(L H:Int)(n:Nat):Int:=bj (λi=>s.tpH T (max (E i) L) (min (E (i+1)) H)) n
structure Sd.Ok (s:Sd)(T:Int):Prop where
 m:∀X,0<=s.f X/\s.f X<=s.c X/\s.c X<=T
 u:∀X,0<=s.fu X/\s.fu X<=s.cu X/\s.cu X<=T
 l:∀X,0<=s.fl X/\s.fl X<=s.cl X/\s.cl X<=T
section
variable {s:Sd}{T X Y:Int}
def Sd.Ok.ch (h:s.Ok T):0<=s.chL X/\s.chL X<=s.chH X/\s.chH X<=T:=by
 have:=h.u X
 have:=h.l X
 unfold Sd.chL Sd.chH
 omega
def Sd.Ok.b (h:s.Ok T):0<=s.bL X Y/\s.bL X Y<=s.bH X Y/\s.bH X Y<=T:=by
 have h1:=h.ch (X:=X)
 have h2:=h.ch (X:=Y)
 have h3:=h.ch (X:=s.ct)
 unfold Sd.bL Sd.bH
 split <;>omega
def Sd.Ok.mm (h:s.Ok T):0<=og s.f s.c X Y/\og s.f s.c X Y<=oM s.f s.c X Y/\oM s.f s.c X Y<=T:=by
 have:=h.m X
 have:=h.m Y
 unfold og oM
 omega
def Sd.Ok.tc (h:s.Ok T):0<=s.tcL X Y/\s.tcL X Y<=s.tcH X Y:=by
 have h1:=h.mm (X:=X) (Y:=Y)
 have h2:=h.b (X:=X) (Y:=Y)
 unfold Sd.tcL Sd.tcH
 split
 · exact⟨Int.mul_nonneg h1.1 h2.1,Int.mul_le_mul h1.2.1 h2.2.1 h2.1 U⟩
 · omega
def Sd.Ok.tp (h:s.Ok T):0<=s.tpL T X Y/\s.tpL T X Y<=s.tpH T X Y:=by
 have h1:=h.mm (X:=X) (Y:=Y)
 have h2:=h.b (X:=X) (Y:=Y)
 unfold Sd.tpL Sd.tpH
 split
 · exact⟨Int.mul_nonneg h1.1 U,Int.mul_le_mul h1.2.1 U U U⟩
 · omega
def Sd.Ok.con (h:s.Ok T){E:Nat->Int}{L:Int}:0<=s.conL E L H n/\s.conL E L H n<=s.conH E L H n:=by
 refine⟨Fa λi _=>?_,jy λi _=>?_⟩
 · have:=(h.tc (X:=E i) (Y:=min (E (i+1)) L)).1
   have:=(h.tc (X:=max (E i) H) (Y:=E (i+1))).1
   omega
 · have:=(h.tc (X:=E i) (Y:=min (E (i+1)) L)).2
   have:=(h.tc (X:=max (E i) H) (Y:=E (i+1))).2
   omega
def Sd.Ok.pro (h:s.Ok T){E:Nat->Int}{L:Int}:0<=s.proL T E L H n/\s.proL T E L H n<=s.proH T E L H n:=
 ⟨Fa λ_ _=>h.tp.1,jy λ_ _=>h.tp.2⟩
end
structure Y2 (f c v:Int->Int)(k:Int):Prop where
 k0:0<k
 mono:∀X Y,X<=Y->v X<=v Y
 lo:∀X,f X*k<=v X
 hi:∀X,v X<=c X*k
def Y2.mm {f c v:Int->Int}{k X Y:Int}(h:Y2 f c v k)(hXY:X<=Y):og f c X Y*k<=v Y-v X:=by
 have h1:=h.lo Y
 have h2:=h.hi X
 have h3:=h.mono X Y hXY
 have O:=h.k0
 unfold og
 rcases(by omega:max 0 (f Y-c X)=0\/max 0 (f Y-c X)=f Y-c X)with e|e <;>rw[e]
 · omega
 · rw[Int.sub_mul];omega
structure Fr (A B G:Int):Prop where
 a0:0<A
 a1:A<=100
 b1:-300000<=B
 b2:B<=300000
 g0:0<G
 g1:G<=10000
def Pb (X:Int):Prop:=-50000<=X/\X<=50000
abbrev vC (A B G M s e L H O qr:Int):Value:=.agg (kaA (A*M+B) G (A*s) G (A*e) G (A*L+B) G (A*H+B) G (A*O+B) G (A*qr+B) G)
structure GY (M s e L H O qr:Int):Prop where
 m:-15000<=M/\M<=15000
 s:0<s/\s<=5000
 e:0<e/\e<=5000
 l:-50000<=L/\L<H/\H<=50000
 o:-50000<=O/\O<qr/\qr<=50000
def jq {b p q:Int}(h1:-p<=a/\a<=p)(h2:-q<=b/\b<=q):-(p*q)<=a*b/\a*b<=p*q:=by
 have h:=qb7 (show a.natAbs<=p.natAbs by omega) (show b.natAbs<=q.natAbs by omega)
 rw[<-Int.natAbs_mul,<-Int.natAbs_mul]at h
 have O:0<=p*q:=Int.mul_nonneg U U
 omega
section
variable {A B G M s L O qr X Y D:Int}
def Fr.pos (f:Fr A B G)(hX:Pb X):-10000000<=A*X+B/\A*X+B<=10000000:=by
 have h:=jq (p:=100) (q:=50000) (show -100<=A/\A<=100 by have:=f.a0;have:=f.a1;omega) hX
 have:=f.b1
 have:=f.b2
 omega
def Fr.dis (f:Fr A B G)(hD:0<D/\D<=5000):0<A*D/\A*D<=50000000:=by
 have h:=jq (p:=100) (q:=5000) (show -100<=A/\A<=100 by have:=f.a0;have:=f.a1;omega) (show -5000<=D/\D<=5000 by omega)
 have:=Int.mul_pos f.a0 hD.1
 omega
def Fr.szX (f:Fr A B G)(hX:Pb X):Sz (A*X+B) G:=by
 have:=f.pos hX
 exact⟨by omega,f.g0,by have:=f.g1;omega⟩
def Fr.szD (f:Fr A B G)(hD:0<D/\D<=5000):Sz (A*D) G:=by
 have:=f.dis hD
 exact⟨by omega,f.g0,by have:=f.g1;omega⟩
def Sz.shR {b:Int}(h:Sz a b):ShR (qR a b):=ShR.mk h.1 h.2.1 h.2.2
def GY.pb (t:GY M s e L H O qr):Pb M/\Pb L/\Pb H/\Pb O/\Pb qr:=by
 have:=t.m
 have:=t.l
 have:=t.o
 unfold Pb
 omega
def Fr.lt (f:Fr A B G):(A*X+B)*G<(A*Y+B)*G↔X<Y:=by
 rw[Int.mul_lt_mul_right f.g0,Int.add_lt_add_iff_right,Int.mul_lt_mul_left f.a0]
def Fr.le (f:Fr A B G):(A*X+B)*G<=(A*Y+B)*G↔X<=Y:=by
 rw[Int.mul_le_mul_right f.g0,Int.add_le_add_iff_right,Int.mul_le_mul_left f.a0]
def p9 (f:Fr A B G)(t:GY M s e L H O qr)(ht:Tb w):CL 16 #[vC A B G M s e L H O qr] w (aC w λv _=>v=.bool true):=by
 obtain⟨b1,b2,b3,b4,b5⟩:=t.pb
 have d1:=f.dis t.s
 have d2:=f.dis t.e
 refine C4 ?_ (f.szD t.s).q9 (f.szD t.e).q9 (f.szX b2).q9 (f.szX b3).q9 (f.szX b4).q9 (f.szX b5).q9 ?_ ?_ ?_ ?_ ht
 · intro q hq
   simp only[List.mem_cons,List.not_mem_nil,or_false]at hq
   rcases hq with rfl|rfl|rfl|rfl|rfl|rfl|rfl
   · exact(f.szX b1).shR
   · exact(f.szD t.s).shR
   · exact(f.szD t.e).shR
   · exact(f.szX b2).shR
   · exact(f.szX b3).shR
   · exact(f.szX b4).shR
   · exact(f.szX b5).shR
 · exact qa1 (dy.2 U)
 · exact qa1 (dy.2 U)
 · exact qa1 (dy.2 (f.lt.2 t.l.2.1))
 · exact qa1 (dy.2 (f.lt.2 t.o.2.1))
end
def Sh.bd {n:Int}(h:Sh pl n d f c):0<=f/\f<=c/\c<=aa pl:=by
 obtain⟨_,_,_,_,a,b,c⟩:=h
 exact⟨b,a,c⟩
def WD (h:pl<=5):aa pl<=10^5/\0<aa pl:=⟨by
 rcases(by omega:pl=0\/pl=1\/pl=2\/pl=3\/pl=4\/pl=5)with rfl|rfl|rfl|rfl|rfl|rfl <;>decide,aZ pl⟩
def iv (p5:pl<=5)(h:0<=x/\x<=aa pl):Q9 x (aa pl):=by
 have:=WD p5
 exact dK U this.2 U
section
variable {A B G M s L O qr X Y D f1 c1 f2 c2:Int}{b:Nat}
def yT (f:Fr A B G)(hX:Pb X)(hY:Pb Y)(hM:Pb M)(hD:0<D/\D<=5000)(p5:pl<=5)(x1:Sh pl (Y-M) D f1 c1)(x2:Sh pl (X-M) D f2 c2)(hT:cR w n0 b bm bp bn bf pl)(hn0:n0<=w.heap.size):
 CL 32 #[vz pl bn bf,IV (A*X+B) G (A*Y+B) G,QV (A*M+B) G,QV (A*D) G] w (fp λv w'=>w.grownBy w' (some b)/\cR w' n0 b bm bp bn bf pl/\v=IV (max 0 (f1-c2)) (aa pl) (max 0 (c1-f2)) (aa pl)):=by
 have T:=WD p5
 have k1:=x1.bd
 have k2:=x2.bd
 have z1:=f.szX hX
 have z2:=f.szX hY
 have z3:=f.szX hM
 have hg:=f.g0
 have hd:=f.dis hD
 have sz:∀qn,Pb qn->Sz (qn-M) D:=λqn hZ=>by
  unfold Pb at hZ hM
  exact⟨by omega,hD.1,by omega⟩
 have hp:0<G*G*(A*D):=Int.mul_pos (Int.mul_pos hg hg) hd.1
 exact Ob U T.2 z1.q9 z2.q9 z3.q9 (f.szD hD).q9 hd.1 (rm z2.1 z2.2.1 z2.2.2 z3.1 z3.2.1 z3.2.2) (rm z1.1 z1.2.1 z1.2.2 z3.1 z3.2.1 z3.2.2)
  (aU hp hD.1 ka5) (aU hp hD.1 ka5) (sz _ hY) (sz _ hX) x1 x2 (iv p5 ⟨k1.1,by omega⟩) (iv p5 ⟨by omega,k1.2.2⟩) (iv p5 ⟨k2.1,by omega⟩) (iv p5 ⟨by omega,k2.2.2⟩)
  (PF U U T.2 U) (PF U U T.2 U) hT hn0
end
structure Bm (pl:Nat)(sd:Sd)(P:Int->Prop)(A B G M s e L H O qr:Int):Prop where
 f:Fr A B G
 t:GY M s e L H O qr
 pb:∀X,P X->Pb X
 sh:∀X,P X->Sh pl (X-M) s (sd.f X) (sd.c X)
 su:∀X,P X\/X=sd.ct->Sh pl (qr-X) e (sd.fu X) (sd.cu X)
 sl:∀X,P X\/X=sd.ct->Sh pl (O-X) e (sd.fl X) (sd.cl X)
 ct:2*sd.ct=O+qr
 ok:sd.Ok (aa pl)
 p1:1<=pl
 p5:pl<=5
section
variable {A B G M s L O qr X Y:Int}{sd:Sd}{P:Int->Prop}
def Bm.mass (h:Bm pl sd P A B G M s e L H O qr)(hX:P X)(hY:P Y){b:Nat}(hT:cR w n0 b bm bp bn bf pl)(hn0:n0<=w.heap.size):
 CL 32 #[vz pl bn bf,IV (A*X+B) G (A*Y+B) G,QV (A*M+B) G,QV (A*s) G] w (fp λv w'=>w.grownBy w' (some b)/\cR w' n0 b bm bp bn bf pl/\v=IV (og sd.f sd.c X Y) (aa pl) (oM sd.f sd.c X Y) (aa pl)):=
 yT h.f (h.pb _ hX) (h.pb _ hY) h.t.pb.1 h.t.s h.p5 (h.sh _ hY) (h.sh _ hX) hT hn0
def Bm.bc (h:Bm pl sd P A B G M s e L H O qr)(hX:P X\/X=sd.ct):Pb X:=by
 rcases hX with h1|rfl
 · exact h.pb _ h1
 · have:=h.t.o
   have:=h.ct
   unfold Pb
   omega
def Bm.chance (h:Bm pl sd P A B G M s e L H O qr)(hX:P X\/X=sd.ct){b:Nat}(hT:cR w n0 b bm bp bn bf pl)(hn0:n0<=w.heap.size):
 CL 34 #[vz pl bn bf,vC A B G M s e L H O qr,QV (A*X+B) G] w (fp λv w'=>w.grownBy w' (some b)/\cR w' n0 b bm bp bn bf pl/\v=IV (sd.chL X) (aa pl) (sd.chH X) (aa pl)):=
 w3 (λW hW hn=>yT h.f h.t.pb.2.2.2.1 h.t.pb.2.2.2.2 (h.bc hX) h.t.e h.p5 (h.su _ hX) (h.sl _ hX) hW hn) hT hn0
def Di (f:Fr A B G)(hX:Pb X)(hY:Pb Y)(hXY:X<=Y)(hZ:Pb qn)(ht:Tb w):CL 42 #[IV (A*X+B) G (A*Y+B) G,QV (A*qn+B) G] w (aC w λv _=>v=.bool (decide (X<=qn/\qn<=Y))):=by
 have h:=lY (f.szX hX).q9 (f.szX hY).q9 (f.szX hZ).q9 (bS.2 (f.le.2 hXY)) ht
 simp only[bS,f.le]at h
 rwa [Bool.decide_and]
def Bm.bounds (h:Bm pl sd P A B G M s e L H O qr)(hX:P X)(hY:P Y)(hXY:X<=Y){b:Nat}(hT:cR w n0 b bm bp bn bf pl)(hn0:n0<=w.heap.size):
 CL 53 #[vz pl bn bf,vC A B G M s e L H O qr,IV (A*X+B) G (A*Y+B) G] w (fp λv w'=>w.grownBy w' (some b)/\cR w' n0 b bm bp bn bf pl/\v=IV (sd.bL X Y) (aa pl) (sd.bH X Y) (aa pl)):=by
 have T:=WD h.p5
 have z1:=h.f.szX h.t.pb.2.2.2.1
 have z2:=h.f.szX h.t.pb.2.2.2.2
 have A2:=h.f.g0
 have g1:=h.f.g1
 have c1:=h.ok.ch (X:=X)
 have c2:=h.ok.ch (X:=Y)
 have c3:=h.ok.ch (X:=sd.ct)
 have Af:=h.ct
 have o1:=h.f.pos h.t.pb.2.2.2.1
 have o2:=h.f.pos h.t.pb.2.2.2.2
 have hXb:=h.pb _ hX
 have hYb:=h.pb _ hY
 have Ad:=h.bc (.inr Z)
 refine Gv (ins:=decide (X<=sd.ct/\sd.ct<=Y)) (bh:=sd.bH X Y) (ta:=A*(O+qr)+2*B) (tb_:=G) T.2 (λW hW A1=>h.chance (.inl hX) hW A1) (λW hW A1=>h.chance (.inl hY) hW A1) (λ_=>trivial) (λW hW A1=>h.chance (.inr Z) hW A1)
  (λW hW=>Di h.f hXb hYb hXY Ad hW) z1.q9 z2.q9 (qb1 (λr:R=>Value.tuple #[.agg #[S r.1,S r.2],.int .i64 0]) (aU (Int.mul_pos A2 A2) A2 ka5)) (dK (by rw[Int.mul_add];omega) A2 U)
  (qb1 (λr:R=>Value.tuple #[.agg #[S r.1,S r.2],.int .i64 0]) (aU U A2 (by
   rw[<-Af];grind)))
  (iv h.p5 U) (iv h.p5 U) (iv h.p5 U) (iv h.p5 U) (iv h.p5 U) (iv h.p5 U) ?_ ?_ hT hn0
 · intro Ab
   exact if_pos (of_decide_eq_true Ab)
 · intro Ab
   exact if_neg (of_decide_eq_false Ab)
end
end
end Go.Proofs.YthpinljhfnodeaaGreatDoor
